import Derived.WalkKit
import Derived.WalkSpells
import Derived.WalkLawsBesides
import Derived.Deep.QuietTactic
import Derived.KernelRfl
import Derived.Deep.LoopGhost
import Derived.Sort.LoopGhostIn
import Derived.TacticsIn
import Derived.OrdersIn
import Derived.RangeFuncLeaves
import Derived.RangeFuncNested
import Derived.Great.BuildSlice
import Derived.Deep.DeepAppendWide
import Derived.StillTail
namespace Go.Proofs.YtedgiljmffngoaaGreat
set_option linter.all false
theorem O {α:Sort _} {a:α}:a=a:=rfl
def Aav:=@Option.bind_some
def Aaw:=@if_neg
def Aax:=@cond_true
def Aay:=@if_pos
def Aaz:=@congrArg
def Aa0:=@cond_false
def Aa1:=@Option.some.inj
def Aa2:=@List.cons.inj
def Aa3:=@Bool.and_eq_true
def Aa4:=@Nat.zero_le
def Aa5:=@List.mem_cons
def Aa6:=@List.all_eq_true
def Aa7:=@List.contains_iff_mem
def Aa8:=@Nat.eq_of_beq_eq_true
def Aa9:=@Nat.lt_of_lt_of_le
def Aba:=@List.getElem?_eq_some_iff
def Abb:=@Eq.trans
def Abc:=@List.getElem_mem
def Abd:=@Nat.le_refl
def Abe:=@decide_eq_false
def Abf:=@List.getElem?_eq_getElem
def Abg:=@List.getD_eq_getElem?_getD
def Abh:=@decide_eq_true_eq
def Abi:=@List.length_append
def Abj:=@List.nil_append
def Abk:=@Nat.lt_or_ge
def Abl:=@List.map_cons
def Abm:=@List.not_mem_nil
def Abn:=@List.mem_cons_self
def Abo:=@List.take_length
def Abp:=@decide_eq_false_iff_not
def Abq:=@Bool.or_eq_true
def Abr:=@Bool.not_eq_true'
def Abs:=@decide_eq_true
def Abt:=@List.mem_cons_of_mem
def Abu:=@Bool.or_eq_false_iff
def Abv:=@List.getElem?_eq_none
def Abw:=@List.cons_append
def Abx:=@List.append_nil
def Aby:=@Int.le_refl
def Abz:=@Nat.zero_add
def Ab0:=@Int.toNat_natCast
def Ab1:=@List.mem_map
def Ab2:=@List.sum_cons
def Ab3:=@List.mem_append
def Ab4:=@Bool.not_true
def Ab5:=@Array.getElem?_eq_some_iff
def Ab6:=@List.mem_of_getElem?
def Ab7:=@or_false
def Ab8:=@Option.some.injEq
def Ab9:=@List.mem_range
def Aca:=@List.length_take
def Acb:=@List.take_zero
def Acc:=@List.ext_getElem?
def Acd:=@Nat.le_trans
def Ace:=@List.mem_singleton
def Acf:=@Option.map_eq_some_iff
def Acg:=@Nat.add_mul
def Ach:=@List.mem_filter
def Aci:=@List.getElem?_take_of_lt
def Acj:=@List.length_cons
def Ack:=@List.map_append
def Acl:=@List.sum_append
def Acm:=@Option.getD_some
def Acn:=@Array.getElem?_setIfInBounds
def Aco:=@List.length_drop
def Acp:=@Iff.rfl
def Acq:=@Nat.mul_le_mul_right
def Acr:=@Nat.mul_one
def Acs:=@false_or
def Acu:=@Array.getD_eq_getD_getElem?
def Acv:=@List.take_succ_eq_append_getElem
def Acw:=@Nat.succ_mul
def Acx:=@List.getElem?_map
def Acy:=@List.mem_iff_getElem?
def Acz:=@Bool.false_eq_true
def Ac0:=@if_false
def Ac1:=@List.length_map
def Ac2:=@Nat.mod_lt
def Ac3:=@List.getElem?_cons_succ
def Ac4:=@List.getElem?_set_ne
def Ac5:=@List.nodup_cons
def Ac6:=@Option.bind_eq_some_iff
def Ac7:=@List.getElem?_cons_zero
def Ac8:=@Bool.not_eq_false'
def Ac9:=@Bool.false_or
def Ada:=@List.getElem?_take
def Adb:=@List.getElem?_zipWith
def Adc:=@List.getElem?_set_self
def Add:=@List.getElem?_drop
def Ade:=@Classical.byContradiction
def Adf:=@of_decide_eq_true
def Adg:=@Nat.le_of_lt_succ
def Adh:=@List.mem_of_mem_take
def Adi:=@List.getElem?_replicate
def Adj:=@Nat.add_assoc
def Adk:=@Array.getElem?_eq_getElem
def Adl:=@Nat.le_of_ble_eq_true
def Adm:=@Prod.mk.injEq
def Adn:=@List.take_left
def Ado:=@Nat.mul_comm
def Adp:=@List.size_toArray
def Adq:=@Option.map_some
def Adr:=@Array.all_eq_true_iff_forall_mem
def Ads:=@List.drop_eq_nil_of_le
def Adt:=@List.filter_append
def Adu:=@Int.mul_le_mul_of_nonneg_right
def Adv:=@List.mapM_cons
def Adw:=@Option.isSome_none
def Adx:=@Nat.mod_eq_of_lt
def Ady:=@Nat.min_eq_left
def Adz:=@List.append_assoc
def Ad0:=@List.mem_append_left
def Ad1:=@Nat.mul_le_mul
def Ad2:=@List.foldl_append
def Ad3:=@List.mem_or_eq_of_mem_set
def Ad4:=@List.length_replicate
def Ad5:=@List.eq_nil_of_length_eq_zero
def Ad6:=@List.drop_eq_getElem_cons
def Ad7:=@Int.eq_ofNat_of_zero_le
def Ad8:=@Nat.two_pow_pos
def Ad9:=@Nat.div_add_mod
def Aea:=@Nat.lt_of_le_of_lt
def Aeb:=@Option.bind_eq_bind
def Aec:=@Array.length_toList
def Aed:=@List.take_append_drop
def Aee:=@Array.getElem?_eq_none
def Aef:=@List.filterMap_cons
def Aeg:=@List.mem_filterMap
def Aeh:=@List.map_congr_left
def Aei:=@List.getElem?_zipIdx
def Aej:=@List.getElem?_zip_eq_some
def Aek:=@Array.toList_replicate
def Ael:=@List.pairwise_iff_getElem
def Aem:=@Nat.div_lt_iff_lt_mul
def Aen:=@Nat.eq_zero_or_pos
def Aeo:=@List.mem_iff_getElem
def Aep:=@List.filter_cons_of_neg
def Aeq:=@Array.getElem?_append_left
def Aer:=@List.getElem?_append_left
def Aes:=@List.getElem?_append_right
def Aet:=@Array.getElem?_setIfInBounds_ne
def Aeu:=@List.filter_cons_of_pos
open Go.RowKit
abbrev AV:=Array Obj
def lk:List (Nat×Value)→Nat→Option Value
 |[],_=>none
 |(i,v)::r,j=>cond (Nat.beq i j) (some v) (lk r j)
abbrev FN:=Nat×List Deferred
structure Fr (n:FN) (a:Act) (m:List (Nat×Value)):Prop where
 dfr:a.defers=n.2
 siz:a.tmps.size=n.1
 at_:∀i v,lk m i=some v→a.tmps[i]? =some v
def BR (m:List (Nat×Value)):Operand→Option Value
 | .tmp t=>lk m t
 | .const v=>some v
 | .global g=>some (.pointer (some ⟨g,0,none⟩))
 | .func f=>some (.func (.func f) #[] #[])
def Fr.eval {n a m X v}(c:Fr n a m) (b:BR m X=some v):a.eval X=v:=by
 cases X with
 |tmp t=>
  have:=c.at_ t v b;simp [Act.eval,Acu,this]
 |const u=>simpa [BR,Act.eval] using b
 |global g=>simpa [BR,Act.eval] using b
 |func f=>simpa [BR,Act.eval] using b
def Fr.put {n a m d}(j:Fr n a m) (hd:Nat.blt d n.1=true) (v:Value):Fr n (a.put (some d) v) ((d,v)::m):=by
 have c:d<n.1:=(by simpa [Nat.blt] using hd:d+1≤n.1)
 refine⟨by simpa [Act.put] using j.dfr,by simpa [Act.put] using j.siz,λi u b=>?_⟩;simp only[Act.put,Acn];simp only[lk] at b;by_cases e:d=i
 ·subst e;have:Nat.beq d d=true:=by simp
  rw[this] at b;simp only[Aax,Ab8] at b;subst b;simp [j.siz,c]
 ·have:Nat.beq d i=false:=by
   cases g:Nat.beq d i with
   |false=>rfl
   |true=>exact absurd (Aa8 g) e
  rw[this] at b;simp only[Aa0] at b;rw[Aaw e];exact j.at_ i u b
def Tr (m:List (Nat×Value)):List (Nat×Value)→Prop
 |[]=>True
 |e::r=>lk m e.1=some e.2∧Tr m r
def Fr.sub {n a m m'}(k:Fr n a m) (d:Tr m m'):Fr n a m':=by
 refine⟨k.dfr,k.siz,λi v b=>k.at_ i v ?_⟩
 induction m' with
 |nil=>simp [lk] at b
 |cons e r g=>
  obtain⟨j,u⟩:=e;simp only[lk] at b;cases c:Nat.beq j i with
  |true=>
   rw[c] at b;simp only[Aax,Ab8] at b;have:=Aa8 c;subst this;subst b;exact d.1
  |false=>
   rw[c] at b;simp only[Aa0] at b;exact g d.2 b
def IZ (b:AV) (a:Addr):Option Value:=
 match b[a.block]? with
 |some (.cells c _ _)=>if a.spot.isSome then none else c[a.off]?
 |_=>none
def I7 (w:World) (a:Addr):w.cell? a=IZ w.heap a:=rfl
structure Wd (B:World) (h:AV) (w:World):Prop where
 heap:w.heap=h
 os:w.os=B.os
 tape:w.tape=B.tape
 out:w.output=B.output
structure B9 (S:Nat→Prop) (h:AV) (S':Nat→Prop) (h':AV):Prop where
 sub:∀b,S b→S' b
 same:∀b,S b→h'[b]? =h[b]?
 siz:h.size≤h'.size
def B9.refl (S:Nat→Prop) (a:AV):B9 S a S a:=⟨λ_ x=>x,λ_ _=>rfl,Abd _⟩
def B9.trans {S h S' h' S'' h''}(x:B9 S h S' h') (y:B9 S' h' S'' h''):B9 S h S'' h'':=
 ⟨λb a=>y.sub b (x.sub b a),λb a=>(y.same b (x.sub b a)).trans (x.same b a),Acd x.siz y.siz⟩
def P2 {b h':AV}{a:Addr}(e:h'[a.block]? =b[a.block]?):IZ h' a=IZ b a:=by simp [IZ,e]
structure HP where
 holds:(Nat→Prop)→(Nat→Prop)→AV→Prop
 loc:∀{S S' F h h'},holds S F h→(∀b,S b→S' b)→(∀b,S b∨F b→h'[b]? =h[b]?)→holds S' F h'
def Sp (S:Nat→Prop):List HP→AV→(Nat→Prop)→Prop
 |[],_,_=>True
 |H::L,a,A=>∃F,H.holds S F a∧(∀b,F b→A b)∧Sp S L a (λb=>A b∧¬F b)
def St (S:Nat→Prop) (L:List HP) (a:AV):Prop:=(∀b,S b→b<a.size)∧Sp S L a (λb=>b<a.size∧¬S b)
def Sp.mono {S:Nat→Prop}{L h}:∀{A c:Nat→Prop},Sp S L h A→(∀b,A b→c b)→Sp S L h c:=by
 induction L with
 |nil=>intros;trivial
 |cons H L g=>
  rintro A c ⟨F,i,j,k⟩ d;exact⟨F,i,λb a=>d b (j b a),g k λb a=>⟨d b a.1,a.2⟩⟩
def Sp.ext {S S':Nat→Prop}{L h h'}:∀{A c:Nat→Prop},Sp S L h A→(∀b,S b→S' b)→(∀b,S b∨A b→h'[b]? =h[b]?)→(∀b,A b→c b)→Sp S' L h' c:=by
 induction L with
 |nil=>intros;trivial
 |cons H L k=>
  rintro A c ⟨F,l,d,m⟩ g i j;refine⟨F,H.loc l g λb a=>i b (a.imp_right (d b)),λb a=>j b (d b a),?_⟩;exact k m g (λb a=>i b (a.imp_right (·.1))) λb a=>⟨j b a.1,a.2⟩
inductive Mu:List HP→HP→HP→List HP→Prop
 |head {L H H'}:Mu (H::L) H H' (H'::L)
 |tail {K L H H' L2}:Mu L H H' L2→Mu (K::L) H H' (K::L2)
inductive Px:List HP→HP→List HP→Prop
 |head {L H}:Px (H::L) H L
 |tail {K L H L2}:Px L H L2→Px (K::L) H (K::L2)
def Sp.pick {S:Nat→Prop}{h}{L c:List HP}{H:HP}(p:Px L H c):∀{A:Nat→Prop},Sp S L h A→Sp S (H::c) h A:=by
 induction p with
 |head=>exact id
 |tail p g=>
  rintro A ⟨F,i,j,k⟩;obtain⟨G,l,d,m⟩:=g k;refine⟨G,l,λb a=>(d b a).1,F,i,λb a=>⟨j b a,λn=>(d b n).2 a⟩,m.mono λb a=>⟨⟨a.1.1,a.2⟩,a.1.2⟩⟩
def MZ {S:Nat→Prop}{h}{L c:List HP}{H:HP}(p:Px L H c):∀{A:Nat→Prop},Sp S (H::c) h A→Sp S L h A:=by
 induction p with
 |head=>exact id
 |tail p g=>
  rintro A ⟨G,i,j,F,k,d,l⟩;refine⟨F,k,λb a=>(d b a).1,g ⟨G,i,λb a=>⟨j b a,λm=>(d b m).2 a⟩,l.mono λb a=>⟨⟨a.1.1,a.2⟩,a.1.2⟩⟩⟩
def Mu.pick {L H H' L2}(r:Mu L H H' L2):∃M,Px L H M∧Px L2 H' M:=by
 induction r with
 |head=>exact⟨_,.head,.head⟩
 |tail r a=>obtain⟨M,p,q⟩:=a;exact⟨_,.tail p,.tail q⟩
def Sp.get {S:Nat→Prop}{h}{L:List HP}{H:HP}{A:Nat→Prop}(a:H∈L) (c:Sp S L h A):∃F,H.holds S F h∧∀b,F b→A b:=by
 induction L generalizing A with
 |nil=>cases a
 |cons K L d=>
  obtain⟨F,g,i,j⟩:=c;cases a with
  |head=>exact⟨F,g,i⟩
  |tail _ a=>obtain⟨G,k,l⟩:=d a j;exact⟨G,k,λb m=>(l b m).1⟩
def St.get {S L h H}(a:St S L h) (c:H∈L):∃F,H.holds S F h∧∀b,F b→b<h.size∧¬S b:=Sp.get c a.2
def St.upd {S L h H H' L2 h'}(d:St S L h) (r:Mu L H H' L2) (g:h.size≤h'.size)
  (k:∀F,H.holds S F h→(∀b,F b→b<h.size∧¬S b)→∃i,H'.holds S i h'∧(∀b,i b→F b∨(h.size≤b∧b<h'.size))∧∀b,b<h.size→¬F b→h'[b]? =h[b]?):
  St S L2 h'∧B9 S h S h':=by
 obtain⟨M,p,q⟩:=r.pick;obtain⟨F,t,j,u⟩:=Sp.pick p d.2;obtain⟨i,v,n,o⟩:=k F t j;have s:∀b,S b→h'[b]? =h[b]? :=λb a=>o b (d.1 b a) λc=>(j b c).2 a;refine⟨⟨λb a=>Aa9 (d.1 b a) g,?_⟩,λ_ x=>x,s,g⟩;refine MZ q ⟨i,v,λb a=>?_,?_⟩
 ·rcases n b a with c|⟨hl,hu⟩
  ·exact⟨Aa9 (j b c).1 g,(j b c).2⟩
  ·exact⟨hu,λl=>absurd (d.1 b l) (by omega)⟩
 ·refine Sp.ext u (λ_ x=>x) (λb a=>?_) λb a=>⟨⟨Aa9 a.1.1 g,a.1.2⟩,λm=>?_⟩
  ·rcases a with a|a
   ·exact s b a
   ·exact o b a.1.1 a.2
  ·rcases n b m with c|⟨hl,_⟩
   ·exact a.2 c
   ·exact absurd a.1.1 (by omega)
def St.add {S L h H' h'}(c:St S L h) (g:h.size≤h'.size) (l:∀b,b<h.size→h'[b]? =h[b]?)
  (k:∃d,H'.holds S d h'∧∀b,d b→h.size≤b∧b<h'.size):St S (H'::L) h'∧B9 S h S h':=by
 obtain⟨d,m,i⟩:=k;refine⟨⟨λb a=>Aa9 (c.1 b a) g,d,m,λb a=>⟨(i b a).2,λj=>absurd (c.1 b j) (by have:=(i b a).1;omega)⟩,?_⟩,λ_ x=>x,λb a=>l b (c.1 b a),g⟩;refine Sp.ext c.2 (λ_ x=>x) (λb a=>l b (a.elim (c.1 b) (·.1))) λb a=>⟨⟨Aa9 a.1 g,a.2⟩,λn=>absurd a.1 (by have:=(i b n).1;omega)⟩
def St.pub {S L k H L2}(c:St S L k) (p:Px L H L2):∃F,H.holds S F k∧(∀b,F b→b<k.size∧¬S b)∧St (λb=>S b∨F b) L2 k∧B9 S k (λb=>S b∨F b) k:=by
 obtain⟨F,g,d,i⟩:=Sp.pick p c.2;refine⟨F,g,d,⟨λb a=>a.elim (c.1 b) λj=>(d b j).1,?_⟩,λ_ x=> .inl x,λ_ _=>rfl,Abd _⟩;exact Sp.ext i (λ_ x=> .inl x) (λ_ _=>rfl) λb a=>⟨a.1.1,λk=>k.elim a.1.2 a.2⟩
def St.drop {S L h H L2}(a:St S L h) (p:Px L H L2):St S L2 h:=by
 obtain⟨F,g,i,c⟩:=Sp.pick p a.2;exact⟨a.1,c.mono λb d=>d.1⟩
structure A4 (α:Type) where
 sz:Nat
 ag:Bool
 rd:(Nat→Prop)→AV→List Value→α→Prop
 len:∀{S h cs x},rd S h cs x→cs.length=sz
 one:∀{S h cs x},rd S h cs x→∀v∈cs,v.oneCell'=true
 mono:∀{S S' h h' cs x},rd S h cs x→(∀b,S b→S' b)→(∀b,S b→h'[b]? =h[b]?)→rd S' h' cs x
def A4.val {α}(r:A4 α) (cs:List Value):Value:=if r.ag then .agg cs.toArray else cs.headD undef
def Rd {α}(S:Nat→Prop) (a:AV) (r:A4 α) (v:Value) (x:α):Prop:=∃cs,v=r.val cs∧r.rd S a cs x
def Rd.mono {α S h S' h'}{r:A4 α}{v x}(k:Rd S h r v x) (e:B9 S h S' h'):Rd S' h' r v x:=
 let ⟨cs,a,b⟩:=k;⟨cs,a,r.mono b e.sub e.same⟩
def OU (S:Nat→Prop) (b:AV) (p:Value) (cs:List Value):Prop:=
 ∃a:Addr,p= .pointer (some a)∧a.spot=none∧S a.block∧∀j,j<cs.length→IZ b ⟨a.block,a.off+j,none⟩=cs[j]?
def OU.mono {S h S' h' p cs}(k:OU S h p cs) (s:∀b,S b→S' b) (e:∀b,S b→h'[b]? =h[b]?):OU S' h' p cs:=
 let ⟨a,d,g,c,i⟩:=k;⟨a,d,g,s _ c,λj l=>(P2 (a:=⟨a.block,a.off+j,none⟩) (e _ c)).trans (i j l)⟩
def My {α}(A S:Nat→Prop) (a:AV) (r:A4 α) (p:Value) (x:α):Prop:=∃cs,OU A a p cs∧r.rd S a cs x
abbrev Pt {α}(S:Nat→Prop) (a:AV) (r:A4 α) (p:Value) (x:α):Prop:=My S S a r p x
def My.mono {α S h S' h'}{r:A4 α}{p x}(k:Pt S h r p x) (e:B9 S h S' h'):Pt S' h' r p x:=
 let ⟨cs,a,b⟩:=k;⟨cs,a.mono e.sub e.same,r.mono b e.sub e.same⟩
def AB (n:Int):Prop:= -9223372036854775808≤n∧n≤9223372036854775807
def AC:A4 Int where
 sz:=1
 ag:=false
 rd:=λ_ _ cs x=>cs=[.int .i64 x]∧AB x
 len:=λ⟨b,_⟩=>by rw[b];rfl
 one:=λ⟨b,_⟩ v a=>by rw[b] at a;simp at a;rw[a];rfl
 mono:=λb _ _=>b
def A4.bool:A4 Bool where
 sz:=1
 ag:=false
 rd:=λ_ _ cs x=>cs=[.bool x]
 len:=λb=>by rw[b];rfl
 one:=λb v a=>by rw[b] at a;simp at a;rw[a];rfl
 mono:=λb _ _=>b
def A4.str:A4 ByteArray where
 sz:=1
 ag:=false
 rd:=λ_ _ cs x=>cs=[.string x]∧x.size≤maxLen
 len:=λ⟨b,_⟩=>by rw[b];rfl
 one:=λ⟨b,_⟩ v a=>by rw[b] at a;simp at a;rw[a];rfl
 mono:=λb _ _=>b
def Sl {α}(S:Nat→Prop) (b:AV) (r:A4 α) (v:Value) (l:List α):Prop:=
 (v= .slice none 0 0∧l=[])∨
 ∃(a:Addr) (cap:Nat),v= .slice (some a) l.length cap∧l.length≤cap∧cap≤maxLen∧
  ∀i x,l[i]? =some x→a.spot=none∧Pt S b r (.pointer (some ⟨a.block,a.off+i*r.sz,none⟩)) x
def Sl.mono {α S h S' h'}{r:A4 α}{v l}(k:Sl S h r v l) (s:∀b,S b→S' b) (e:∀b,S b→h'[b]? =h[b]?):Sl S' h' r v l:=by
 rcases k with k|⟨a,cap,h1,h4,h5,h6⟩
 ·exact .inl k
 ·refine .inr ⟨a,cap,h1,h4,h5,λi x d=>?_⟩;obtain⟨c,cs,g,j⟩:=h6 i x d;exact⟨c,cs,g.mono s e,r.mono j s e⟩
def Sl.len {α S h}{r:A4 α}{v l}(k:Sl S h r v l):∃a cap,v= .slice a l.length cap∧l.length≤maxLen:=by
 rcases k with ⟨rfl,rfl⟩|⟨a,cap,h1,h4,h5,h6⟩
 ·exact⟨none,0,rfl,Aa4 _⟩
 ·exact⟨some a,cap,h1,Acd h4 h5⟩
def A4.sl {α}(r:A4 α):A4 (List α) where
 sz:=1
 ag:=false
 rd:=λS d cs l=>∃v,cs=[v]∧Sl S d r v l
 len:=λ⟨_,d,_⟩=>by rw[d];rfl
 one:=λ⟨u,d,k⟩ v b=>by
  rw[d] at b;simp at b;rw[b];rcases k with ⟨rfl,_⟩|⟨a,c,rfl,_⟩<;>rfl
 mono:=λ⟨v,d,k⟩ s e=>⟨v,d,k.mono s e⟩
def Sl.mono' {α S h S' h'}{r:A4 α}{v l}(k:Sl S h r v l) (e:B9 S h S' h'):Sl S' h' r v l:=k.mono e.sub e.same
def Rd.int {S a v x}(k:Rd S a AC v x):v= .int .i64 x∧AB x:=by obtain⟨_,rfl,rfl,a⟩:=k;exact⟨rfl,a⟩
def Rd.bool {S h v x}(k:Rd S h A4.bool v x):v= .bool x:=by obtain⟨_,rfl,rfl⟩:=k;rfl
def Rd.str {S a v x}(k:Rd S a A4.str v x):v= .string x∧x.size≤maxLen:=by obtain⟨_,rfl,rfl,a⟩:=k;exact⟨rfl,a⟩
def Rd.sl {α S a v x}{r:A4 α}(k:Rd S a r.sl v x):Sl S a r v x:=by obtain⟨_,rfl,_,rfl,a⟩:=k;exact a
def OC {α S h v x}{r:A4 α}(k:Sl S h r v x):Rd S h r.sl v x:=⟨[v],rfl,v,rfl,k⟩
def F9 {α β}(r:A4 α) (o:Nat) (r':A4 β) (f:α→β):Prop:=
 ∀{S a cs x},r.rd S a cs x→r'.rd S a ((cs.drop o).take r'.sz) (f x)
def My.fld {α β A S h}{r:A4 α}{r':A4 β}{o f p x}(k:My A S h r p x) (b:F9 r o r' f):
  ∃a:Addr,p= .pointer (some a)∧My A S h r' (.pointer (some (a.add o))) (f x):=by
 obtain⟨cs,⟨a,rfl,c,d,g⟩,i⟩:=k;refine⟨a,rfl,_,⟨a.add o,rfl,?_,?_,?_⟩,b i⟩
 ·unfold Addr.add;split<;>simp [c]
 ·unfold Addr.add;split<;>exact d
 ·intro j l;have m:(a.add o).block=a.block:=by unfold Addr.add;split<;>rfl
  have n:(a.add o).off=a.off+o:=by unfold Addr.add;split<;>simp_all
  rw[m,n];simp only[Aca,Aco] at l;have:=g (o+j) (by omega);rw[Adj,this,Aci (by omega),Add]
abbrev BC (n:Int):Int:=IntKind.i64.wrap n
def RI {n:Int}(h:AB n):BC n=n:=IntWalk.i64_in n h
def BH (n:Int):AB (BC n):=by
 unfold BC AB;rw[IntKind.wrap_i64];omega
def SY (x y:Int):(x==y)=decide (x=y):=by rw[Bool.eq_iff_iff];simp
def kR:TypeDesc→Bool
 | .struct _| .array _ _=>true
 |_=>false
def Jw (P:Program) (t:TypeId) (sz:Nat) (ag:Bool):Bool:=
 match P.info? t,P.underlying t with
 |some i,some d=>Nat.beq i.size sz&&(match d with| .struct _| .array _ _=>ag|_=> !ag)
 |_,_=>false
def Na (P:Program) (t e sz:Nat):Bool:=
 match P.underlying t,P.info? e with
 |some (.slice a),some i=>Nat.beq a e&&Nat.beq i.size sz&& !Nat.beq sz 0
 |_,_=>false
def Zz (P:Program) (t j off:Nat):Bool:=
 match P.underlying t with
 |some (.struct a)=>match a[j]? with
  |some f=>Nat.beq f.offset off&&(match P.info? f.type with|some i=> !Nat.beq i.size 0|none=>false)
  |none=>false
 |_=>false
def Qg {P t sz ag}(h:Jw P t sz ag=true):∃i d,P.info? t=some i∧P.underlying t=some d∧i.size=sz∧kR d=ag:=by
 unfold Jw at h;split at h
 ·rename_i i d a hd;simp only[Aa3] at h;refine⟨i,d,a,hd,Aa8 h.1,?_⟩;have b:=h.2;cases d<;>cases ag<;>simp_all [kR]
 ·cases h
def Me {P t e sz}(h:Na P t e sz=true):∃i,P.underlying t=some (.slice e)∧P.info? e=some i∧i.size=sz∧0<sz:=by
 unfold Na at h;split at h
 ·rename_i k i d g;simp only[Aa3,Abr] at h;obtain⟨⟨a,b⟩,c⟩:=h;have j:=Aa8 a;subst j;refine⟨i,d,g,Aa8 b,?_⟩;cases sz with
  |zero=>simp at c
  |succ n=>exact Nat.succ_pos _
 ·cases h
def eJ {P t j off}(h:Zz P t j off=true):∃a f i,P.underlying t=some (.struct a)∧a[j]? =some f∧f.offset=off∧P.info? f.type=some i∧i.size≠0:=by
 unfold Zz at h;split at h
 ·rename_i a c;split at h
  ·rename_i f d;simp only[Aa3] at h;have b:=h.2;split at b
   ·rename_i i g;refine⟨a,f,i,c,d,Aa8 h.1,g,λh0=>?_⟩;rw[h0] at b;simp at b
   ·cases b
  ·cases h
 ·cases h
section
variable {P:Program}{w:World}
def RS {t:TypeId}{i:TypeInfo}(h:P.info? t=some i):(sizeOf t).run P w= .ok i.size w:=by simp [sizeOf,typeInfo,h]
def UD {t d}(h:P.underlying t=some d):(isAgg t).run P w= .ok (kR d) w:=by
 simp only[isAgg,Sem.run_bind,run_underlying h,Result.andThen_ok];cases d<;>rfl
def Ny {S:Nat→Prop}{p:Value}{cs:List Value}{t sz:Nat}{ag:Bool}(k:OU S w.heap p cs) (g:cs.length=sz) (y:Jw P t sz ag=true) (z:ag=false→sz=1):
  (Instr.loadAt t p).run P w= .ok (if ag then .agg cs.toArray else cs.headD undef) w:=by
 obtain⟨a,rfl,u,D,A⟩:=k;obtain⟨i,d,B,hd,C,n⟩:=Qg y;have IZ:∀j,j<cs.length→w.cell? (a.add j)=cs[j]? :=λj m=>by
  have:=A j m;obtain⟨b,o,s⟩:=a;simp only at u;subst u;have l:(⟨b,o,none⟩:Addr).add j=⟨b,o+j,none⟩:=by unfold Addr.add;split<;>simp_all
  rw[l,I7];exact this
 simp only[Instr.loadAt,Instr.sureAddr,loadVar,Sem.run_bind,Sem.run_pure,Result.andThen_ok,UD hd,n];cases ag with
 |true=>
  simp only[if_true,Sem.run_bind,RS B,Result.andThen_ok,C,←g];rw[run_loadCells_list (P:=P) w a cs (λj v m=>by
   have q:j<cs.length:=(Aba.1 m).1;rw[IZ j q,m])]
  rfl
 |false=>
  have:=z rfl;have x:=IZ 0 (by omega)
  match cs,g with
  |[c],_=>
   have h0:a.add 0=a:=by unfold Addr.add;simp
   rw[h0] at x;simp only[Acz,Ac0,load,Sem.run,x];rfl
  |[],g=>simp at g;omega
  |_::_::_,g=>simp at g;omega
def Lo {a:Addr}{t j off}(h:Zz P t j off=true):(Instr.fieldAt t (.pointer (some a)) j).run P w= .ok (.pointer (some (a.add off))) w:=by
 obtain⟨l,f,i,b,c,d,g,k⟩:=eJ h;simp [Instr.fieldAt,run_underlying b,c,Instr.sureAddr,fieldPlace,RS g,k,d]
def M9 {a:Addr}{t e sz len cap:Nat}{i:Int}(h:Na P t e sz=true) (h0:0≤i) (k:i.toNat<len):
  (Instr.indexAt t (.slice (some a) len cap) (.int .i64 i)).run P w= .ok (.pointer (some (a.add (i.toNat*sz)))) w:=by
 obtain⟨c,d,g,j,l⟩:=Me h;have b:i<(len:Int):=by omega
 simp [Instr.indexAt,asIntOf,run_underlying d,RS g,h0,b,j]
end
def CK (C:World→Prop) (h:AV):Prop:=∀w,C w→∀b,b<h.size→w.heap[b]? =h[b]?
def LD {B:World}{h}:CK (Wd B h) h:=λw a _ _=>by rw[a.heap]
structure DX (h h':AV):Prop where
 siz:h.size≤h'.size
 same:∀b,b<h.size→h'[b]? =h[b]?
def DX.refl (h:AV):DX h h:=⟨Abd _,λ_ _=>rfl⟩
def DX.trans {h h' h''}(x:DX h h') (y:DX h' h''):DX h h'':=⟨Acd x.siz y.siz,λb a=>(y.same b (Aa9 a x.siz)).trans (x.same b a)⟩
def DX.ext {S h h'}(o:DX h h') (a:∀b,S b→b<h.size):B9 S h S h':=⟨λ_ x=>x,λb c=>o.same b (a b c),o.siz⟩
def DX.all {S h h'}(o:DX h h') (a:∀b,S b→b<h.size):B9 S h (λb=>b<h'.size) h':=⟨λb x=>Aa9 (a b x) o.siz,λb c=>o.same b (a b c),o.siz⟩
def DX.st {S L h h'}(o:DX h h') (c:St S L h):St S L h':=
 ⟨λb a=>Aa9 (c.1 b a) o.siz,Sp.ext c.2 (λ_ x=>x) (λb a=>o.same b (a.elim (c.1 b) (·.1))) λ_ a=>⟨Aa9 a.1 o.siz,a.2⟩⟩
def Cl (B:World) (h:AV) (w:World):Prop:=∃h',Wd B h' w∧DX h h'
def PF {B:World}{h}:CK (Cl B h) h:=λ_ ⟨_,a,o⟩ b c=>by rw[a.heap];exact o.same b c
section
variable {P:Program}{ops:Array Oper}{C:World→Prop}{Q:Act→Prop}{n:FN}{a:Act}{m:List (Nat×Value)}{rest:List Oper}
variable {d:Nat}{ty:TypeId}{pos:String}{af:Array Edge}
def Du {c:Op}{v:Value}(g:Fr n a m) (hd:Nat.blt d n.1=true)
  (b:∀w,C w→(execOp a.eval ⟨some d,c,ty,pos,af,none⟩).run P w= .ok (.value v) w)
  (k:∀a,Fr n a ((d,v)::m)→wpQuiet P ops C Q rest a):wpQuiet P ops C Q (⟨some d,c,ty,pos,af,none⟩::rest) a:=by
 unfold wpQuiet;rw[Aay (by simp [Region.wanted])];exact⟨v,λw i=>by unfold Oper.quietAt;rw[b w i];exact⟨rfl,rfl⟩,k _ (g.put hd v)⟩
def zB {o:Oper}{j e:Nat}{b:Bool}(c:Fr n a m) (d:o.guard=some (j,b)) (g:(ops[j]?).bind (·.dst)=some e) (i:lk m e=some (.bool b))
  (k:wpQuiet P ops C Q ({ o with guard:=none}::rest) a):wpQuiet P ops C Q (o::rest) a:=by
 have l:Region.wanted o (yielded ops a.tmps)=true:=by
  have:=c.at_ e _ i;simp [Region.wanted,d,yielded,g,this]
 unfold wpQuiet at k ⊢;rw[Aay l];rw[Aay (by simp [Region.wanted])] at k;exact k
def zC {o:Oper}{j e:Nat}{b:Bool}(c:Fr n a m) (g:o.guard=some (j,!b)) (i:(ops[j]?).bind (·.dst)=some e) (l:lk m e=some (.bool b)) (p:o.dst=some d) (hd:Nat.blt d n.1=true)
  (k:∀a,Fr n a ((d,undef)::m)→wpQuiet P ops C Q rest a):wpQuiet P ops C Q (o::rest) a:=by
 have q:Region.wanted o (yielded ops a.tmps)=false:=by
  have:=c.at_ e _ l;cases b<;>simp [Region.wanted,g,yielded,i,this]
 unfold wpQuiet;rw[Aaw (by rw[q];exact Bool.false_ne_true),p];exact k _ (c.put hd _)
def UG (k:Nat) (I:Act→Prop) {l:List Oper}(b:wpQuiet P ops C I (l.take k) a) (c:∀g,I g→wpQuiet P ops C Q (l.drop k) g):wpQuiet P ops C Q l a:=by
 induction k generalizing l a with
 |zero=>exact c a (by simpa [wpQuiet] using b)
 |succ k i=>
  cases l with
  |nil=>exact c a (by simpa [wpQuiet] using b)
  |cons o l=>
   simp only[List.take_succ_cons,List.drop_succ_cons] at b c;unfold wpQuiet at b ⊢;split
   ·rename_i d;rw[Aay d] at b;obtain⟨v,j,m⟩:=b;exact⟨v,j,i m c⟩
   ·rename_i d;rw[Aaw d] at b;exact i b c
def yZ {X v}(b:Fr n a m) (c:BR m X=some v) (hd:Nat.blt d n.1=true)
  (k:∀a,Fr n a ((d,v)::m)→wpQuiet P ops C Q rest a):wpQuiet P ops C Q (⟨some d,.move X,ty,pos,af,none⟩::rest) a:=
 Du b hd (λw _=>by simp [execOp,b.eval c]) k
def zE {X v}(b:Fr n a m) (c:BR m X=some v) (hd:Nat.blt d n.1=true)
  (k:∀a,Fr n a ((d,v)::m)→wpQuiet P ops C Q rest a):wpQuiet P ops C Q (⟨some d,.assign X,ty,pos,af,none⟩::rest) a:=
 Du b hd (λw _=>by simp [execOp,b.eval c]) k
def pK {c x y:Operand}{b:Bool}{v}(g:Fr n a m) (i:BR m c=some (.bool b)) (j:BR m (if b then x else y)=some v) (hd:Nat.blt d n.1=true)
  (k:∀a,Fr n a ((d,v)::m)→wpQuiet P ops C Q rest a):wpQuiet P ops C Q (⟨some d,.pick c x y,ty,pos,af,none⟩::rest) a:=
 Du g hd (λw _=>by cases b<;>simp [execOp,g.eval i,asBool]<;>exact g.eval (by simpa using j)) k
section ints
variable {X Y:Operand}{t1 t2:TypeId}{x y:Int}{kd:IntKind}
def O5 {b:BinOp}{v:Value}(c:Fr n a m) (g:BR m X=some (.int kd x)) (i:BR m Y=some (.int kd y)) (hd:Nat.blt d n.1=true)
  (j:∀w,(binOp b t1 (.int kd x) (.int kd y)).run P w= .ok v w)
  (k:∀a,Fr n a ((d,v)::m)→wpQuiet P ops C Q rest a):wpQuiet P ops C Q (⟨some d,.binOp b t1 X Y t2,ty,pos,af,none⟩::rest) a:=by
 refine Du c hd (λw _=>?_) k;have l:(eqGuard b t1 X Y (.int kd x) (.int kd y)).run P w= .ok () w:=by
  unfold eqGuard;cases b<;>simp
 simp [execOp,c.eval g,c.eval i,l,j]
def wH (b:Fr n a m) (c:BR m X=some (.int .i64 x)) (g:BR m Y=some (.int .i64 y)) (hd:Nat.blt d n.1=true) (i:AB (x+y))
  (k:∀a,Fr n a ((d,.int .i64 (x+y))::m)→wpQuiet P ops C Q rest a):wpQuiet P ops C Q (⟨some d,.binOp .add t1 X Y t2,ty,pos,af,none⟩::rest) a:=
 O5 b c g hd (λw=>by have:=RI i;simp only[BC] at this;simp [binOp,Op.intArith,this]) k
def vR (b:Fr n a m) (c:BR m X=some (.int .i64 x)) (g:BR m Y=some (.int .i64 y)) (hd:Nat.blt d n.1=true) (i:AB (x*y))
  (k:∀a,Fr n a ((d,.int .i64 (x*y))::m)→wpQuiet P ops C Q rest a):wpQuiet P ops C Q (⟨some d,.binOp .mul t1 X Y t2,ty,pos,af,none⟩::rest) a:=
 O5 b c g hd (λw=>by have:=RI i;simp only[BC] at this;simp [binOp,Op.intArith,this]) k
def pO (b:Fr n a m) (c:BR m X=some (.int .i64 x)) (g:BR m Y=some (.int .i64 y)) (hd:Nat.blt d n.1=true)
  (k:∀a,Fr n a ((d,.int .i64 (BC (x+y)))::m)→wpQuiet P ops C Q rest a):wpQuiet P ops C Q (⟨some d,.binOp .add t1 X Y t2,ty,pos,af,none⟩::rest) a:=
 O5 b c g hd (λw=>by simp [binOp,Op.intArith]) k
def pJ (b:Fr n a m) (c:BR m X=some (.int .i64 x)) (g:BR m Y=some (.int .i64 y)) (hd:Nat.blt d n.1=true)
  (k:∀a,Fr n a ((d,.int .i64 (BC (x-y)))::m)→wpQuiet P ops C Q rest a):wpQuiet P ops C Q (⟨some d,.binOp .sub t1 X Y t2,ty,pos,af,none⟩::rest) a:=
 O5 b c g hd (λw=>by simp [binOp,Op.intArith]) k
def vU (b:Fr n a m) (c:BR m X=some (.int kd x)) (g:BR m Y=some (.int kd y)) (hd:Nat.blt d n.1=true)
  (k:∀a,Fr n a ((d,.bool (decide (x<y)))::m)→wpQuiet P ops C Q rest a):wpQuiet P ops C Q (⟨some d,.binOp .lss t1 X Y t2,ty,pos,af,none⟩::rest) a:=
 O5 b c g hd (λw=>by simp [binOp,Op.intCmp]) k
def vV (b:Fr n a m) (c:BR m X=some (.int kd x)) (g:BR m Y=some (.int kd y)) (hd:Nat.blt d n.1=true)
  (k:∀a,Fr n a ((d,.bool (decide (x≤y)))::m)→wpQuiet P ops C Q rest a):wpQuiet P ops C Q (⟨some d,.binOp .leq t1 X Y t2,ty,pos,af,none⟩::rest) a:=
 O5 b c g hd (λw=>by simp [binOp,Op.intCmp]) k
def wC (b:Fr n a m) (c:BR m X=some (.int kd x)) (g:BR m Y=some (.int kd y)) (hd:Nat.blt d n.1=true)
  (k:∀a,Fr n a ((d,.bool (decide (y<x)))::m)→wpQuiet P ops C Q rest a):wpQuiet P ops C Q (⟨some d,.binOp .gtr t1 X Y t2,ty,pos,af,none⟩::rest) a:=
 O5 b c g hd (λw=>by simp [binOp,Op.intCmp]) k
def wD (b:Fr n a m) (c:BR m X=some (.int kd x)) (g:BR m Y=some (.int kd y)) (hd:Nat.blt d n.1=true)
  (k:∀a,Fr n a ((d,.bool (decide (y≤x)))::m)→wpQuiet P ops C Q rest a):wpQuiet P ops C Q (⟨some d,.binOp .geq t1 X Y t2,ty,pos,af,none⟩::rest) a:=
 O5 b c g hd (λw=>by simp [binOp,Op.intCmp]) k
def wF (b:Fr n a m) (c:BR m X=some (.int kd x)) (g:BR m Y=some (.int kd y)) (hd:Nat.blt d n.1=true)
  (k:∀a,Fr n a ((d,.bool (decide (x=y)))::m)→wpQuiet P ops C Q rest a):wpQuiet P ops C Q (⟨some d,.binOp .eql t1 X Y t2,ty,pos,af,none⟩::rest) a:=
 O5 b c g hd (λw=>by simp [binOp,Op.intCmp,SY]) k
def vQ (b:Fr n a m) (c:BR m X=some (.int kd x)) (g:BR m Y=some (.int kd y)) (hd:Nat.blt d n.1=true)
  (k:∀a,Fr n a ((d,.bool (decide (x≠y)))::m)→wpQuiet P ops C Q rest a):wpQuiet P ops C Q (⟨some d,.binOp .neq t1 X Y t2,ty,pos,af,none⟩::rest) a:=
 O5 b c g hd (λw=>by simp [binOp,Op.intCmp,bne,SY]) k
end ints
def vM {X t1 b}(c:Fr n a m) (g:BR m X=some (.bool b)) (hd:Nat.blt d n.1=true)
  (k:∀a,Fr n a ((d,.bool (!b))::m)→wpQuiet P ops C Q rest a):wpQuiet P ops C Q (⟨some d,.unOp .not t1 X,ty,pos,af,none⟩::rest) a:=
 Du c hd (λw _=>by simp [execOp,c.eval g,Op.unary]) k
def pL {X t1 x}(b:Fr n a m) (c:BR m X=some (.int .i64 x)) (hd:Nat.blt d n.1=true)
  (k:∀a,Fr n a ((d,.int .i64 (BC (0-x)))::m)→wpQuiet P ops C Q rest a):wpQuiet P ops C Q (⟨some d,.unOp .neg t1 X,ty,pos,af,none⟩::rest) a:=
 Du b hd (λw _=>by simp [execOp,b.eval c,Op.unary,Op.intArith]) k
section loads
variable {A S:Nat→Prop}{L:List HP}{h:AV}{X:Operand}{p:Value}{t:TypeId}
def mQ {cs:List Value}{sz:Nat}{ag:Bool}(g:CK C h) (i:∀b,A b→b<h.size) (c:Fr n a m) (j:BR m X=some p) (k0:OU A h p cs) (l:cs.length=sz) (o:Jw P t sz ag=true) (q:ag=false→sz=1) (hd:Nat.blt d n.1=true)
  (k:∀a,Fr n a ((d,if ag then .agg cs.toArray else cs.headD undef)::m)→wpQuiet P ops C Q rest a):wpQuiet P ops C Q (⟨some d,.load t X,ty,pos,af,none⟩::rest) a:=by
 refine Du c hd (λw s=>?_) k;have:=Ny (P:=P) (w:=w) (k0.mono (λ_ x=>x) λb u=>g w s b (i b u)) l o q;simp [execOp,c.eval j,this]
def ZU {α}{r:A4 α}{x}(i:CK C h) (j:∀b,A b→b<h.size) (l:Fr n a m) (o:BR m X=some p) (k0:My A S h r p x) (q:Jw P t r.sz r.ag=true) (s:r.ag=false→r.sz=1) (hd:Nat.blt d n.1=true)
  (k:∀v a,Fr n a ((d,v)::m)→Rd S h r v x→wpQuiet P ops C Q rest a):wpQuiet P ops C Q (⟨some d,.load t X,ty,pos,af,none⟩::rest) a:=by
 obtain⟨cs,u,g⟩:=k0;exact mQ i j l o u (r.len g) q s hd λw c=>k _ w c ⟨cs,rfl,g⟩
def wA {x}(g:CK C h) (i:∀b,A b→b<h.size) (j:Fr n a m) (l:BR m X=some p) (k0:My A S h AC p x) (o:Jw P t 1 false=true) (hd:Nat.blt d n.1=true)
  (k:∀a,Fr n a ((d,.int .i64 x)::m)→AB x→wpQuiet P ops C Q rest a):wpQuiet P ops C Q (⟨some d,.load t X,ty,pos,af,none⟩::rest) a:=
 ZU g i j l k0 o (λ_=>rfl) hd λv q c s=>by obtain⟨rfl,u⟩:=s.int;exact k q c u
def wB {x}(g:CK C h) (i:∀b,A b→b<h.size) (j:Fr n a m) (l:BR m X=some p) (k0:My A S h A4.bool p x) (o:Jw P t 1 false=true) (hd:Nat.blt d n.1=true)
  (k:∀a,Fr n a ((d,.bool x)::m)→wpQuiet P ops C Q rest a):wpQuiet P ops C Q (⟨some d,.load t X,ty,pos,af,none⟩::rest) a:=
 ZU g i j l k0 o (λ_=>rfl) hd λv q c s=>by obtain rfl:=s.bool;exact k q c
def vX {x}(g:CK C h) (i:∀b,A b→b<h.size) (j:Fr n a m) (l:BR m X=some p) (k0:My A S h A4.str p x) (o:Jw P t 1 false=true) (hd:Nat.blt d n.1=true)
  (k:∀a,Fr n a ((d,.string x)::m)→x.size≤maxLen→wpQuiet P ops C Q rest a):wpQuiet P ops C Q (⟨some d,.load t X,ty,pos,af,none⟩::rest) a:=
 ZU g i j l k0 o (λ_=>rfl) hd λv q c s=>by obtain⟨rfl,u⟩:=s.str;exact k q c u
def vZ {α}{r:A4 α}{x}(g:CK C h) (i:∀b,A b→b<h.size) (j:Fr n a m) (l:BR m X=some p) (k0:My A S h r.sl p x) (o:Jw P t 1 false=true) (hd:Nat.blt d n.1=true)
  (k:∀v a,Fr n a ((d,v)::m)→Sl S h r v x→wpQuiet P ops C Q rest a):wpQuiet P ops C Q (⟨some d,.load t X,ty,pos,af,none⟩::rest) a:=
 ZU g i j l k0 o (λ_=>rfl) hd λv q c s=>k v q c s.sl
def zD {α β}{r:A4 α}{r':A4 β}{f:α→β}{j off x}(c:Fr n a m) (g:BR m X=some p) (k0:My A S h r p x) (i:F9 r off r' f) (l:Zz P t j off=true) (hd:Nat.blt d n.1=true)
  (k:∀q a,Fr n a ((d,q)::m)→My A S h r' q (f x)→wpQuiet P ops C Q rest a):wpQuiet P ops C Q (⟨some d,.fieldAddr t X j,ty,pos,af,none⟩::rest) a:=by
 obtain⟨u,rfl,o⟩:=k0.fld i;exact Du c hd (λw _=>by simp [execOp,c.eval g,Lo l]) λs b=>k _ s b o
def wE {b o j off}(g:Fr n a m) (i:BR m X=some (.pointer (some ⟨b,o,none⟩))) (l:Zz P t j off=true) (hd:Nat.blt d n.1=true)
  (k:∀a,Fr n a ((d,.pointer (some ⟨b,o+off,none⟩))::m)→wpQuiet P ops C Q rest a):wpQuiet P ops C Q (⟨some d,.fieldAddr t X j,ty,pos,af,none⟩::rest) a:=by
 have c:(⟨b,o,none⟩:Addr).add off=⟨b,o+off,none⟩:=by unfold Addr.add;split<;>simp_all
 exact Du g hd (λw _=>by simp [execOp,g.eval i,Lo l,c]) k
def Sl.at_ {α}{r:A4 α}{v:Value}{l:List α}(k0:Sl S h r v l) {i:Nat}{x:α}(d:l[i]? =some x):
  ∃(a:Addr) (cap:Nat),v= .slice (some a) l.length cap∧Pt S h r (.pointer (some (a.add (i*r.sz)))) x:=by
 rcases k0 with ⟨rfl,rfl⟩|⟨a,cap,h1,h4,h5,h6⟩
 ·simp at d
 ·refine⟨a,cap,h1,?_⟩;obtain⟨g,this⟩:=h6 i x d;obtain⟨b,o,s⟩:=a;simp only at g;subst g;have c:(⟨b,o,none⟩:Addr).add (i*r.sz)=⟨b,o+i*r.sz,none⟩:=by unfold Addr.add;split<;>simp_all
  rw[c];exact this
def zA {α}{r:A4 α}{l:List α}{e i x Y v}(b:Fr n a m) (j:BR m X=some v) (o:BR m Y=some (.int .i64 i)) (k0:Sl S h r v l) (p:Na P t e r.sz=true) (h0:0≤i) (g:l[i.toNat]? =some x) (hd:Nat.blt d n.1=true)
  (k:∀q a,Fr n a ((d,q)::m)→Pt S h r q x→wpQuiet P ops C Q rest a):wpQuiet P ops C Q (⟨some d,.indexAddr t X Y,ty,pos,af,none⟩::rest) a:=by
 obtain⟨s,cap,rfl,u⟩:=k0.at_ g;have y:i.toNat<l.length:=(Aba.1 g).1;exact Du b hd (λw _=>by simp [execOp,b.eval j,b.eval o,M9 (P:=P) (w:=w) (cap:=cap) (a:=s) p h0 y]) λz c=>k _ z c u
def vW {α}{r:A4 α}{l:List α}{v aty e}(c:Fr n a m) (g:BR m X=some v) (k0:Sl S h r v l) (j:Na P t e r.sz=true) (hd:Nat.blt d n.1=true)
  (k:∀a,Fr n a ((d,.int .i64 l.length)::m)→l.length≤maxLen→wpQuiet P ops C Q rest a):wpQuiet P ops C Q (⟨some d,.call ⟨.builtin .len,#[X],#[t]⟩,aty,pos,af,none⟩::rest) a:=by
 obtain⟨s,cap,rfl,o⟩:=k0.len;obtain⟨i,p,_⟩:=Me j;exact Du c hd (λw _=>by simp [execOp,resolve,invoke,builtin,Builtin.len_,c.eval g,run_underlying p,goInt]) λq b=>k q b o
def pM {ad len cap aty e sz}(b:Fr n a m) (c:BR m X=some (.slice ad len cap)) (g:Na P t e sz=true) (hd:Nat.blt d n.1=true)
  (k:∀a,Fr n a ((d,.int .i64 len)::m)→wpQuiet P ops C Q rest a):wpQuiet P ops C Q (⟨some d,.call ⟨.builtin .len,#[X],#[t]⟩,aty,pos,af,none⟩::rest) a:=by
 obtain⟨i,j,_⟩:=Me g;exact Du b hd (λw _=>by simp [execOp,resolve,invoke,builtin,Builtin.len_,b.eval c,run_underlying j,goInt]) k
end loads
def vT {X Y t1 t2 x y aty kd}(b:Fr n a m) (c:BR m X=some (.int kd x)) (g:BR m Y=some (.int kd y)) (hd:Nat.blt d n.1=true)
  (k:∀a,Fr n a ((d,.int kd (max x y))::m)→wpQuiet P ops C Q rest a):wpQuiet P ops C Q (⟨some d,.call ⟨.builtin .max,#[X,Y],#[t1,t2]⟩,aty,pos,af,none⟩::rest) a:=
 Du b hd (λw _=>by
  have:(if y>x then y else x)=max x y:=by rw[Int.max_def];split<;>split<;>omega
  simp [execOp,resolve,invoke,builtin,Builtin.max_,Builtin.max2,b.eval c,b.eval g,this]) k
def vS {X Y t1 t2 x y aty kd}(b:Fr n a m) (c:BR m X=some (.int kd x)) (g:BR m Y=some (.int kd y)) (hd:Nat.blt d n.1=true)
  (k:∀a,Fr n a ((d,.int kd (min x y))::m)→wpQuiet P ops C Q rest a):wpQuiet P ops C Q (⟨some d,.call ⟨.builtin .min,#[X,Y],#[t1,t2]⟩,aty,pos,af,none⟩::rest) a:=
 Du b hd (λw _=>by
  have:(if y<x then y else x)=min x y:=by rw[Int.min_def];split<;>split<;>omega
  simp [execOp,resolve,invoke,builtin,Builtin.min_,Builtin.min2,b.eval c,b.eval g,this]) k
end
abbrev AP:=Act→World→Prop
def pZ:List (Nat×AP)→Nat→Option AP
 |[],_=>none
 |(i,v)::r,j=>cond (Nat.beq i j) (some v) (pZ r j)
def Qx (ex:List (Nat×AP)) (R N:AP):Exit→Act→World→Prop
 | .normal=>N
 | .exit i=>match pZ ex i with
  |some k=>k
  |none=>λ_ _=>False
 | .ret=>R
 |_=>λ_ _=>False
def FF:Option Nat→Fence
 |none=>Fence.wide
 |some l=>Fence.wide.inRound l
def mR (o:Oper):Bool:=match o.op with| .defer _=>false|_=>true
def Za:Code→Bool
 | .skip=>true
 | .region _ ops _=>ops.toList.all mR
 | .seq x y=>Za x&&Za y
 | .cond _ x y=>Za x&&Za y
 | .block _ c=>Za c
 | .loop c=>Za c
 | .exit _=>true
 | .ret=>true
 |_=>false
def RD (rd:Option Nat) (c:Code):Prop:=rd=none∨Za c=true
def R9 (rd:Option Nat) (f:FuncId):(FF rd).fn f:=by cases rd<;>trivial
def Tn (rd:Option Nat):(FF rd).depth=none:=by cases rd<;>rfl
def iD (rd:Option Nat):(FF rd).round=rd:=by cases rd<;>rfl
def Rn (P:Program) (rd:Option Nat):Machine.fenced P (FF rd)=Machine.fenced P Fence.wide:=by cases rd<;>rfl
def kK {P:Program}{f:FuncId}{a:Array Value}{w:World}{R:Ending→World→Prop}{rd:Option Nat}{n:Nat}(h:Calls P f a w R):CallsIn (FF rd) n P f a w R:=
 ⟨R9 rd f,λcs _=>let ⟨e,w',fr,r,s,x⟩:=h cs;⟨e,w',fr,r,by rw[Rn];exact comesIn_wide.2 s,x⟩⟩
def pF {P:Program}{b:String}{a:Array Value}{w:World}{R:Value→World→Prop}{rd:Option Nat}{n:Nat}(h:Rows P b a w R):RowsIn (FF rd) n P b a w R:=
 λc cs _=>let ⟨v,w',r,s⟩:=h c cs;⟨v,w',r,by rw[Rn];exact stepsIn_wide.2 s⟩
section
variable {P:Program}{ops:Array Oper}{Q:Exit→Act→World→Prop}{rd:Option Nat}
def pQ {o:Oper}{a:Act}{w:World}{K:Act→World→Prop}(b:rd=none∨mR o=true) (g:∀a w,¬Q .outgrown a w) (h:o.wp P a w K Q∨(o.asks P a w∧LetsOut Q)):o.wpIn (FF rd) 0 P a w K Q:=by
 rcases h with h|⟨_,a0,w0,h⟩
 ·refine⟨λf _=>R9 rd f,?_⟩;have i:o.semAt (FF rd).round a.eval=execOp a.eval o:=by
   rw[iD];cases rd with
   |none=>rfl
   |some l=>exact Oper.semAt_some l _ _ λc j=>b.elim (λb=>by cases b) λb=>by unfold mR at b;rw[j] at b;cases b
  rw[i];unfold Oper.wp at h;generalize (execOp a.eval o).run P w=r at h
  cases r with
  |ok k w'=>
   cases k<;>simp only[Oper.upon,Oper.uponIn] at h ⊢
   case value v=>exact h
   case skip=>exact h
   case defer d=>exact h
   case enter f args=>exact⟨λhd=>(by rw[Tn] at hd;cases hd),kK (h.mono λe m n=>by cases e<;>exact n)⟩
   case row r args=>exact⟨λhd=>(by rw[Tn] at hd;cases hd),pF h⟩
  |halt x w'=>cases x<;>simp only[Oper.upon,Oper.uponIn] at h ⊢;exact h
 ·exact absurd h (g a0 w0)
def XN (c:∀a w,¬Q .outgrown a w):∀(l:List Oper) (a:Act) (w:World),(rd=none∨l.all mR=true)→wpList P ops Q l a w→wpListIn (FF rd) 0 P ops Q l a w
 |[],_,_,_,h=>h
 |o::b,a,w,g,h=>by
  have j:rd=none∨mR o=true:=g.imp id λh=>by simp only[List.all_cons,Aa3] at h;exact h.1
  have i:rd=none∨b.all mR=true:=g.imp id λh=>by simp only[List.all_cons,Aa3] at h;exact h.2
  unfold wpList at h;unfold wpListIn;split
  ·rename_i d;rw[Aay d] at h;exact pQ j c (h.imp (Oper.wp_mono λa w k=>XN c b a w i k) id)
  ·rename_i d;rw[Aaw d] at h;exact⟨λf _=>R9 rd f,XN c b _ w i h⟩
def Yf (g:∀a w,¬Q .outgrown a w) (j:rd=none∨ops.toList.all mR=true):∀(b:Nat) (c:Array Bool) (a:Act) (w:World),wpAny P .any ops Q b c a w→wpAnyIn (FF rd) 0 P .any ops Q b c a w
 |0,_,_,_,h=>h
 |b+1,c,a,w,h=>⟨h.1,λi p=>by
  have d:=h.2 i p;unfold wpOp at d;unfold wpOpIn;cases l:ops[i]? with
  |none=>simp only[l] at d ⊢;exact Yf g j b _ a w d
  |some o=>
   simp only[l] at d ⊢;have m:rd=none∨mR o=true:=j.imp id λh=>Aa6.1 h o (by have:=Array.mem_of_getElem? l;simpa using this);split
   ·rename_i n;rw[Aay n] at d;exact pQ m g (d.imp (Oper.wp_mono λa w k=>Yf g j b _ a w k) id)
   ·rename_i n;rw[Aaw n] at d;exact⟨λf _=>R9 rd f,Yf g j b _ _ w d⟩⟩
def XD {l:List Oper}{id:Nat}{a:Act}{w:World}(hd:RD rd (.region id l.toArray false)) (b:∀a w,¬Q .outgrown a w) (h:wpList P l.toArray Q l a w):(Code.region id l.toArray false).wpIn (FF rd) 0 P Q a w:=
 wpIn_region_lit (XN b l a w (hd.imp (λx=>x) λh=>by simpa [Za] using h) h)
def O2 {id:Nat}{a:Act}{w:World}(hd:RD rd (.region id ops true)) (b:∀a w,¬Q .outgrown a w) (c:P.follows .mixedOrders=true)
  (h:wpAny P .any ops Q ops.size (Array.replicate ops.size false) a { w with drawn:=w.drawn+1}):(Code.region id ops true).wpIn (FF rd) 0 P Q a w:=
 wpIn_region_any c (Yf b (hd.imp (λx=>x) λh=>by simpa [Za] using h) _ _ _ _ h)
end
def W (P:Program) (ex:List (Nat×AP)) (R:AP):List Code→AP→AP
 |[],N=>N
 |c::cs,N=>λa w=>∀rd,RD rd c→c.wpIn (FF rd) 0 P (Qx ex R (W P ex R cs N)) a w
section
variable {P:Program}{ex:List (Nat×AP)}{R N:AP}{cs:List Code}{a:Act}{w:World}
def RD.seq {rd:Option Nat}{x y:Code}(h:RD rd (.seq x y)):RD rd x∧RD rd y:=
 ⟨h.imp id λh=>by simp only[Za,Aa3] at h;exact h.1,h.imp id λh=>by simp only[Za,Aa3] at h;exact h.2⟩
def RD.cond {rd:Option Nat}{X:Operand}{x y:Code}(h:RD rd (.cond X x y)):RD rd x∧RD rd y:=
 ⟨h.imp id λh=>by simp only[Za,Aa3] at h;exact h.1,h.imp id λh=>by simp only[Za,Aa3] at h;exact h.2⟩
def RD.block {rd:Option Nat}{i:Nat}{c:Code}(h:RD rd (.block i c)):RD rd c:=h
def RD.loop {rd:Option Nat}{c:Code}(h:RD rd (.loop c)):RD rd c:=h
def NM {ex:List (Nat×AP)}{R N:AP}:∀a w,¬(Qx ex R N) .outgrown a w:=λ_ _ h=>h
def uN {x y:Code}(h:W P ex R (x::y::cs) N a w):W P ex R (.seq x y::cs) N a w:=by
 intro rd hd;refine wpIn_seq (wpIn_mono (h rd hd.seq.1) λe b w' q=>?_);cases e with
 |normal=>exact q rd hd.seq.2
 |_=>exact q
def oG (h:W P ex R cs N a w):W P ex R (.skip::cs) N a w:=λ_ _=>wpIn_skip h
def uO (h:R a w):W P ex R (.ret::cs) N a w:=λ_ _=>wpIn_ret h
def aH {i:Nat}{k:AP}(b:pZ ex i=some k) (h:k a w):W P ex R (.exit i::cs) N a w:=by
 refine λ_ _=>wpIn_exit ?_;simp only[Qx,b];exact h
def yR {n m X b}{x y:Code}(c:Fr n a m) (d:BR m X=some (.bool b)) (g:b=true→W P ex R (x::cs) N a w) (i:b=false→W P ex R (y::cs) N a w):
  W P ex R (.cond X x y::cs) N a w:=λrd hd=>wpIn_cond_split (c.eval d) (λe=>g e rd hd.cond.1) λe=>i e rd hd.cond.2
def uP {n m X}{x y:Code}(b:Fr n a m) (c:BR m X=some (.bool true)) (d:W P ex R (x::cs) N a w):
  W P ex R (.cond X x y::cs) N a w:=λrd hd=>wpIn_cond_true (b.eval c) (d rd hd.cond.1)
def uQ {n m X}{x y:Code}(b:Fr n a m) (c:BR m X=some (.bool false)) (d:W P ex R (y::cs) N a w):
  W P ex R (.cond X x y::cs) N a w:=λrd hd=>wpIn_cond_false (b.eval c) (d rd hd.cond.2)
def Vu {i:Nat}{c:Code}(I:AP) (g:W P ((i,I)::ex) R [c] I a w) (d:∀a w,I a w→W P ex R cs N a w):W P ex R (.block i c::cs) N a w:=by
 intro rd hd;refine wpIn_block (wpIn_mono (g rd hd.block) λe l w' q=>?_);cases e with
 |exit j=>
  simp only[Exit.inBlock,Qx,pZ] at q ⊢;by_cases b:j=i
  ·subst b;rw[Aay rfl];have:Nat.beq j j=true:=Nat.beq_refl j;rw[this] at q;exact d _ _ q
  ·rw[Aaw b];have:Nat.beq i j=false:=by
    cases k:Nat.beq i j with
    |false=>rfl
    |true=>exact absurd (Aa8 k).symm b
   rw[this] at q;exact q
 |normal=>exact d _ _ q
 |_=>exact q
def iL {i:Nat}{c:Code}(h:W P ((i,W P ex R cs N)::ex) R [c] (W P ex R cs N) a w):W P ex R (.block i c::cs) N a w:=Vu _ h λ_ _ x=>x
def oH {b:AP}(h:W P ex R cs N a w) (d:∀a w,N a w→b a w):W P ex R cs b a w:=by
 induction cs generalizing a w with
 |nil=>exact d _ _ h
 |cons c cs g=>
  intro rd hd;refine wpIn_mono (h rd hd) λe i w' q=>?_;cases e with
  |normal=>exact g q
  |_=>exact q
def uR {c:Code}(I:AP) (b:W P ex R [c] I a w) (d:∀a w,I a w→W P ex R cs N a w):W P ex R (c::cs) N a w:=by
 intro rd hd;refine wpIn_mono (b rd hd) λe g w' q=>?_;cases e with
 |normal=>exact d _ _ q
 |_=>exact q
def oI {c:Code}(I:Nat→AP) (T d:Nat) (h0:I d a w) (g:∀i a w,I i a w→i≤T)
  (b:∀i a w,I i a w→W P ex R [c] (I (i+1)) a w):W P ex R (.loop c::cs) N a w:=by
 intro rd hd;refine wpIn_loop_ghost (λk a w=>∃i,I i a w∧k=T-i+1) (T-d+1) ⟨d,h0,rfl⟩ ?_;rintro n a w ⟨i,j,rfl⟩;refine wpIn_mono (b i a w j rd hd.loop) λe o w' q=>?_;cases e with
 |normal=>
  have p:=g _ _ _ j;have m:I (i+1) o w':=q;have s:=g _ _ _ m;exact⟨_,by omega,i+1,m,rfl⟩
 |exit id=>exact q
 |goto l=>exact q
 |ret=>exact q
 |panic t=>exact q
 |outgrown=>exact q
end
def Mf {P:Program}{ops:Array Oper}{C:World→Prop}{K:Act→Prop}{Q:Exit→Act→World→Prop}(d:∀a w,C w→K a→Q .normal a w):
  ∀(l:List Oper) (a:Act) (w:World),C w→wpQuiet P ops C K l a→wpList P ops Q l a w
 |[],a,w,c,h=>d a w c h
 |o::b,a,w,c,h=>by
  unfold wpQuiet at h;unfold wpList;split
  ·rename_i g;rw[Aay g] at h;exact .inl (Oper.wp_of_quiet c (λj w' i k=>Mf d b j w' i k) h)
  ·rename_i g;rw[Aaw g] at h;exact Mf d b _ w c h
def cI (P:Program) (l:List Oper) (draw:Bool):Prop:=draw=false∨(P.follows .mixedOrders=true∧Region.lexB .any l.toArray=true)
def WE {P:Program}{C:World→Prop}{l:List Oper}{id:Nat}{draw:Bool}{Q:Exit→Act→World→Prop}{a:Act}{w:World}{rd:Option Nat}(b:RD rd (.region id l.toArray draw)) (d:∀a w,¬Q .outgrown a w) (k:cI P l draw) (c:C w) (hd:∀w,C w→C { w with drawn:=w.drawn+1})
  (h:wpQuiet P l.toArray C (λg=>∀w',C w'→Q .normal g w') l a):(Code.region id l.toArray draw).wpIn (FF rd) 0 P Q a w:=by
 rcases k with rfl|⟨hm,hB⟩
 ·exact XD b d (Mf (λa w c i=>i w c) l a w c h)
 ·cases draw with
  |false=>exact XD b d (Mf (λa w c i=>i w c) l a w c h)
  |true=>
   simp only[Region.lexB,Aa3] at hB;refine O2 b d hm (wpAny_of_quiet (Q:=λg=>∀w',C w'→Q .normal g w') (λ_ w' j h=>h w' j) _ _ _ _ (hd w c) ?_);have:=wpAnyQ_lex (C:=C) (md:= .any) hB.1 l 0 (Array.replicate l.toArray.size false) a (by simp) (by simpa using hB.2) h;simpa using this
def Wd.drew {B h w}(k:Wd B h w):Wd B h { w with drawn:=w.drawn+1}:=⟨k.heap,k.os,k.tape,k.out⟩
section
variable {P:Program}{ex:List (Nat×AP)}{R N:AP}{cs:List Code}{a:Act}{w:World}{B:World}{h:AV}{l:List Oper}{id:Nat}{draw:Bool}{S:Nat→Prop}{L:List HP}
def yO (b:cI P l draw) (c:Wd B h w) (k:wpQuiet P l.toArray (Wd B h) (λd=>∀w',Wd B h w'→W P ex R cs N d w') l a):W P ex R (.region id l.toArray draw::cs) N a w:=
 λ_ hd=>WE hd NM b c (λ_=>Wd.drew) k
def yQ (i:cI P l draw) (j:Wd B h w) (g:St S L h) (k:wpQuiet P l.toArray (Cl B h) (λb=>∀w' h',Wd B h' w'→St S L h'→B9 S h S h'→W P ex R cs N b w') l a):W P ex R (.region id l.toArray draw::cs) N a w:=by
 intro rd hd;refine WE (C:=Cl B h) hd NM i ⟨h,j,DX.refl h⟩ (λw ⟨h',d,c⟩=>⟨h',d.drew,c⟩) ?_;refine UG l.length (λb=>∀w' h',Wd B h' w'→St S L h'→B9 S h S h'→W P ex R cs N b w') (by simpa using k) λb m=>?_;simp only[List.drop_length];exact λw' ⟨h',d,c⟩=>m w' h' d (c.st g) (c.ext g.1)
def yP (k:wpList P l.toArray (Qx ex R (W P ex R cs N)) l a w):W P ex R (.region id l.toArray false::cs) N a w:=λ_ hd=>XD hd NM k
end
def mV {P:Program}{ops:Array Oper}{ex:List (Nat×AP)}{R N:AP}{a:Act}{w:World}(h:N a w):wpList P ops (Qx ex R N) [] a w:=h
def QG {P:Program}{ops:Array Oper}{Q:Exit→Act→World→Prop}:∀(k:Nat) (l:List Oper) (a:Act) (w:World),
  wpList P ops (Exit.then (wpList P ops Q (l.drop k)) Q) (l.take k) a w→wpList P ops Q l a w
 |0,l,a,w,h=>by simpa [wpList,Exit.then] using h
 |k+1,[],a,w,h=>by simpa [wpList,Exit.then] using h
 |k+1,o::l,a,w,h=>by
  simp only[List.take_succ_cons,List.drop_succ_cons] at h;unfold wpList at h ⊢;split
  ·rename_i g;rw[Aay g] at h;rcases h with b|⟨b,i,j,h2⟩
   ·refine .inl ?_;unfold Oper.wp at b ⊢;generalize (execOp a.eval o).run P w=r at b
    cases r with
    |ok p w'=>
     cases p<;>simp only[Oper.upon] at b ⊢
     case value v=>exact QG k l _ _ b
     case skip=>exact QG k l _ _ b
     case defer d=>exact QG k l _ _ b
     case enter f args=>
      refine b.mono λe m n=>?_;cases e with
      |returned v=>exact QG k l _ _ n
      |panicked c=>exact n
      |outgrown=>obtain⟨i,j,h0⟩:=n;exact⟨i,j,h0⟩
     case row r args=>obtain b:=b;exact Rows.mono b λv m q=>QG k l _ _ q
    |halt x w'=>cases x<;>simp only[Oper.upon] at b ⊢;exact b
   ·exact .inr ⟨b,i,j,h2⟩
  ·rename_i g;rw[Aaw g] at h;exact QG k l _ _ h
def l_q {P:Program}{ops:Array Oper}{Q:Exit→Act→World→Prop}{l:List Oper}{a:Act}{w B:World}{h:AV}(k:Nat) (b:Wd B h w)
  (c:wpQuiet P ops (Wd B h) (λd=>∀w',Wd B h w'→wpList P ops Q (l.drop k) d w') (l.take k) a):wpList P ops Q l a w:=
 QG k l a w (Mf (Q:=Exit.then (wpList P ops Q (l.drop k)) Q) (λ_ w b g=>g w b) (l.take k) a w b c)
def B3 (P:Program) (f:FuncId) (a:Array Value) (S:Nat→Prop) (h:AV) (post:Value→(Nat→Prop)→AV→Prop):Prop:=
 ∀B w,Wd B h w→Calls P f a w λe w'=>∃v S' h',e= .returned v∧Wd B h' w'∧B9 S h S' h'∧post v S' h'
def B3.mono {P f args S h}{post a:Value→(Nat→Prop)→AV→Prop}(k:B3 P f args S h post) (c:∀v S' h',B9 S h S' h'→post v S' h'→a v S' h'):B3 P f args S h a:=
 λB w d=>(k B w d).mono λ_ _ ⟨v,S',h',g,i,b,j⟩=>⟨v,S',h',g,i,b,c v S' h' b j⟩
def XZ:Nat→List Value→List (Nat×Value)
 |_,[]=>[]
 |i,v::r=>(i,v)::XZ (i+1) r
def YJ:∀(l:List Value) (k i:Nat) (v:Value),lk (XZ k l) i=some v→k≤i∧l[i-k]? =some v
 |[],k,i,v,h=>by simp [XZ,lk] at h
 |u::r,k,i,v,h=>by
  simp only[XZ,lk] at h;cases a:Nat.beq k i with
  |true=>
   rw[a] at h;have:=Aa8 a;subst this;simp only[Aax,Ab8] at h;exact⟨Abd _,by simpa using h⟩
  |false=>
   rw[a] at h;simp only[Aa0] at h;obtain⟨c,b⟩:=YJ r (k+1) i v h;refine⟨by omega,?_⟩;have:i-k=(i-(k+1))+1:=by omega
   rw[this];simpa using b
def Fr.args {n:Nat}{l:List Value}(h:l.length≤n):Fr (n,[]) ⟨l.toArray++Array.replicate (n-l.toArray.size) undef,[]⟩ (XZ 0 l):=by
 refine⟨rfl,by simp;omega,λi v c=>?_⟩;obtain⟨_,a⟩:=YJ l 0 i v c;have b:i<l.length:=by have:=(Aba.1 a).1;omega
 simp only[Nat.sub_zero] at a;rw[Aeq (by simpa using b)];simpa using a
def mT (a:List Nat):List Deferred:=a.map λD=>{ target:= .collected D,args:= #[]}
def Rt (P:Program) (fn:Func) (B:World) (S:Nat→Prop) (h:AV) (post:Value→(Nat→Prop)→AV→Prop):AP:=λa w=>
 ∃d:List Nat,a.defers=mT d∧d.Nodup∧(∀D,D∈d→w.heap[D]? =some (.deferred (some [])))∧
  ∀c:World,c.os=w.os→c.tape=w.tape→c.output=w.output→c.heap.size=w.heap.size→(∀b,b∉d→c.heap[b]? =w.heap[b]?)→
   ∃v,(results fn a.tmps).run P c= .ok v c∧∃S' h',Wd B h' c∧B9 S h S' h'∧post v S' h'
def UU {w a:World}(g:a.heap.size=w.heap.size) (j:∀b,b∉([]:List Nat)→a.heap[b]? =w.heap[b]?):a.heap=w.heap:=by
 apply Array.ext g;intro i c d;have:=j i Abm;rw[Adk c,Adk d] at this;exact Aa1 this
def gB {P:Program}{fn:Func}{B:World}{S:Nat→Prop}{h:AV}{post:Value→(Nat→Prop)→AV→Prop}{a:Act}{w:World}{v:Value}{S':Nat→Prop}{h':AV}(hd:a.defers=[]) (g:∀w:World,Wd B h' w→(results fn a.tmps).run P w= .ok v w) (c:Wd B h' w) (e:B9 S h S' h') (k:post v S' h'):Rt P fn B S h post a w:=
 ⟨[],hd,List.nodup_nil,λD i=>(by cases i),λd j l m n o=>by
  have p:=UU n o;have b:Wd B h' d:=⟨p.trans c.heap,j.trans c.os,l.trans c.tape,m.trans c.out⟩
  exact⟨v,g d b,S',h',b,e,k⟩⟩
def YM {P:Program}{fn:Func}{c:Array Value}{R:Ending→World→Prop}:∀(d:List Nat) (w:World),d.Nodup→(∀D,D∈d→w.heap[D]? =some (.deferred (some [])))→
  (∀a:World,a.os=w.os→a.tape=w.tape→a.output=w.output→a.heap.size=w.heap.size→(∀b,b∉d→a.heap[b]? =w.heap[b]?)→∃v,(results fn c).run P a= .ok v a∧R (.returned v) a)→
  LeavesInM Fence.wide 0 P fn c R (mT d) .returning w
 |[],w,_,_,k=>by
  obtain⟨v,i,j⟩:=k w rfl rfl rfl rfl λ_ _=>rfl;exact⟨v,i,j⟩
 |D::d,w,q,o,k=>by
  obtain⟨l,m⟩:=Ac5.1 q;have hd:=o D (Abn ..);have n:(w.putObj D (.deferred none)).heap.size=w.heap.size:=by simp [World.putObj]
  refine⟨by simp,.inl ⟨D,_,rfl,run_takeDeferred hd,YM d _ m (λs g=>?_) λa i j t u x=>k a i j t (u.trans n) λb p=>?_⟩⟩
  ·rw[World.putObj_heap_other (λe=>l (by rw[←e];exact g))];exact o s (Abt _ g)
  ·rw[x b λh=>p (Abt _ h),World.putObj_heap_other (λe=>p (by rw[e];exact Abn ..))]
def B3.intro {P f fn c l S h post}(n:Nat) (g:P.funcs[f]? =some fn) (j:fn.body=some c) (m:fn.ntmps=n) (o:l.length≤n)
  (k:∀B w a,Wd B h w→Fr (n,[]) a (XZ 0 l)→W P [] (Rt P fn B S h post) [c] (Rt P fn B S h post) a w):B3 P f l.toArray S h post:=by
 intro B w p;subst m;refine(callsIn_wide (n:=0)).1 (callsIn_of_wp_marks g j trivial (wpIn_mono (k B w _ p (Fr.args o) none (.inl rfl)) λe d w' q=>?_));have b:Rt P fn B S h post d w'→LeavesInM Fence.wide 0 P fn d.tmps (λe w'=>∃v S' h',e= .returned v∧Wd B h' w'∧B9 S h S' h'∧post v S' h') d.defers .returning w':=by
  rintro⟨s,t,u,x,y⟩;rw[t];refine YM s w' u x λz A C D F G=>?_;obtain⟨v,H,S',h',I,J,K⟩:=y z A C D F G;exact⟨v,H,v,S',h',rfl,I,J,K⟩
 cases e with
 |normal=>exact b q
 |ret=>exact b q
 |exit i=>simp only[Qx,pZ] at q
 |goto l=>exact q.elim
 |panic c=>exact q.elim
 |outgrown=>exact q.elim
section
variable {P:Program}{fn:Func}{B:World}{S S':Nat→Prop}{h h':AV}{post:Value→(Nat→Prop)→AV→Prop}{n:FN}{a:Act}{m:List (Nat×Value)}{w:World}
def rt1 {k:Nat}{t v}(b:Fr (k,[]) a m) (c:fn.results= #[.tmp t]) (d:lk m t=some v) (g:Wd B h' w) (e:B9 S h S' h') (k:post v S' h'):Rt P fn B S h post a w:=by
 refine gB b.dfr (λw _=>?_) g e k;rw[results_tmp c];have:=b.eval (X:= .tmp t) d;simp only[Act.eval] at this;rw[this]
end
def WY {n:FN}{a:Act}{m:List (Nat×Value)}(i:Fr n a m) {xs:Array Operand}{b:List Value}(c:xs.toList.mapM (BR m)=some b):xs.map a.eval=b.toArray:=by
 obtain⟨l⟩:=xs;simp only at c;have:l.map a.eval=b:=by
  induction l generalizing b with
  |nil=>simp at c;subst c;rfl
  |cons x l j=>
   simp only[Adv,Aeb,Ac6] at c;obtain⟨y,k,o,g,d⟩:=c;simp only[Option.pure_def,Ab8] at d;subst d;simp only[Abl,i.eval k,j g]
 rw[←this];simp
def BK (P:Program) (f:FuncId):Bool:=
 match P.funcs[f]? with
 |some fn=> !(fn.name== "runtime.NumGoroutine")&&fn.body.isSome
 |none=>false
def WA {P:Program}{n:FN}{a:Act}{m:List (Nat×Value)}{w:World}{d:Option Nat}{f:Nat}{ty:TypeId}{pos:String}{af:Array Edge}{X:Operand}{xs:Array Operand}{g:Array TypeId}
  {c vs:List Value} {first cap:Array Value}
  (l:Fr n a m) (o:BR m X=some (.func (.func f) first cap)) (i:xs.toList.mapM (BR m)=some c) (j:first.toList++c++cap.toList=vs) (b:BK P f=true):
  (execOp a.eval ⟨d,.call ⟨.value X,xs,g⟩,ty,pos,af,none⟩).run P w= .ok (.enter f vs.toArray) w:=by
 have p:first++c.toArray++cap=vs.toArray:=by
  rw[←j];apply Array.ext';simp
 unfold BK at b;split at b
 ·rename_i fn k;simp only[Aa3,Abr] at b;have q:¬fn.name= "runtime.NumGoroutine" :=by simpa using b.1
  have s:¬fn.body=none:=by intro h0;rw[h0] at b;simp at b
  simp only[execOp,resolve,l.eval o,Deferred.ofValue,WY l i];simp [invoke,callFunc,k,q,s,p]
 ·cases b
def dO {P:Program}{ops:Array Oper}{Q:Exit→Act→World→Prop}{n:FN}{a:Act}{m:List (Nat×Value)}{b:List Oper}{d f:Nat}{ty:TypeId}{pos:String}{af:Array Edge}{X:Operand}{xs:Array Operand}{g:Array TypeId}
  {c vs:List Value} {first cap:Array Value} {S h B w} {post:Value→(Nat→Prop)→AV→Prop}
  (o:Fr n a m) (p:BR m X=some (.func (.func f) first cap)) (i:xs.toList.mapM (BR m)=some c) (j:first.toList++c++cap.toList=vs) (l:BK P f=true) (hd:Nat.blt d n.1=true)
  (q:Wd B h w) (s:B3 P f vs.toArray S h post)
  (k:∀v a w S' h',Fr n a ((d,v)::m)→Wd B h' w→B9 S h S' h'→post v S' h'→wpList P ops Q b a w):
  wpList P ops Q (⟨some d,.call ⟨.value X,xs,g⟩,ty,pos,af,none⟩::b) a w:=by
 refine wpList_plain rfl λK t=>?_;unfold Oper.wp;rw[WA o p i j l];refine(s B w q).mono λe w' ⟨v,S',h',u,x,y,z⟩=>?_;subst u;exact t _ _ (k v _ w' S' h' (o.put hd v) x y z)
def pN {P:Program}{ops:Array Oper}{Q:Act→Prop}{n:FN}{a:Act}{m:List (Nat×Value)}{c:List Oper}{d f:Nat}{ty:TypeId}{pos:String}{af:Array Edge}{X:Operand}{xs:Array Operand}{i:Array TypeId}
  {g vs:List Value} {first cap:Array Value} {h B} {v:Value}
  (s:Fr n a m) (x:BR m X=some (.func (.func f) first cap)) (j:xs.toList.mapM (BR m)=some g) (l:first.toList++g++cap.toList=vs) (p:BK P f=true) (hd:Nat.blt d n.1=true)
  (y:∀h',DX h h'→B3 P f vs.toArray (λb=>b<h'.size) h' (λu _ _=>u=v))
  (k:∀a,Fr n a ((d,v)::m)→wpQuiet P ops (Cl B h) Q c a):
  wpQuiet P ops (Cl B h) Q (⟨some d,.call ⟨.value X,xs,i⟩,ty,pos,af,none⟩::c) a:=by
 unfold wpQuiet;rw[Aay (by simp [Region.wanted])];refine⟨v,λw ⟨h',z,o⟩=>?_,k _ (s.put hd v)⟩;unfold Oper.quietAt;rw[WA s x j l p];refine⟨rfl,(y h' o B w z).mono λH w' ⟨u,A,q,C,D,t,F⟩=>?_⟩;subst C;subst F;exact⟨rfl,q,D,o.trans ⟨t.siz,λb G=>t.same b G⟩⟩
def St.all (h:AV):St (λb=>b<h.size) [] h:=⟨λ_ x=>x,trivial⟩
def EB (P:Program) (t:TypeId):Option (List Value):=((P.info? t).bind (·.zero)).map (·.cells.toList)
def Bx (b:Nat) (T:TypeId) (cs:List Value):HP where
 holds:=λ_ F h=>(∀c,F c↔c=b)∧h[b]? =some (.cells cs.toArray T (0,0))
 loc:=λ⟨a,d⟩ _ e=>⟨a,(e _ (.inr ((a _).2 rfl))).trans d⟩
def Bx.cell {b T cs S F h}(k:(Bx b T cs).holds S F h) (j:Nat):IZ h ⟨b,j,none⟩=cs[j]? :=by simp [IZ,k.2]
def Gw (h:AV) (o:Obj) (b:Nat) (a:b<h.size):(h.push o)[b]? =h[b]? :=by rw[Array.getElem?_push,Aaw (by omega)]
def Kq (h:AV) (o:Obj):(h.push o)[h.size]? =some o:=by simp
def Wd.alloc {B h w}(k:Wd B h w) (o:Obj):Wd B (h.push o) (w.alloc o):=⟨by show(w.heap.push o)=_;rw[k.heap],k.os,k.tape,k.out⟩
def St.push {S L h}(c:St S L h) (T:TypeId) (cs:List Value):St S (Bx h.size T cs::L) (h.push (.cells cs.toArray T))∧B9 S h S (h.push (.cells cs.toArray T)):=
 c.add (by simp) (λb a=>Gw _ _ _ a) ⟨λb=>b=h.size,⟨λ_=>Acp,Kq _ _⟩,λb a=>by subst a;simp⟩
section
variable {P:Program}{ops:Array Oper}{Q:Exit→Act→World→Prop}{n:FN}{a:Act}{m:List (Nat×Value)}{rest:List Oper}
variable {d:Nat}{ty:TypeId}{pos:String}{af:Array Edge}{X:Operand}{B w:World}{h:AV}{S:Nat→Prop}{L:List HP}
def mW {T:TypeId}{v:Value}{cs:List Value}(g:Fr n a m) (j:BR m X=some v) (l:v.cells=cs.toArray) (hd:Nat.blt d n.1=true) (i:Wd B h w) (o:St S L h)
  (k:∀b a w h',Fr n a ((d,.pointer (some ⟨b,0,none⟩))::m)→Wd B h' w→St S (Bx b T cs::L) h'→B9 S h S h'→wpList P ops Q rest a w):
  wpList P ops Q (⟨some d,.box T X,ty,pos,af,none⟩::rest) a w:=by
 refine wpList_plain rfl λK p=>?_;unfold Oper.wp;have c:(execOp a.eval ⟨some d,.box T X,ty,pos,af,none⟩).run P w= .ok (.value (.pointer (some ⟨w.heap.size,0,none⟩))) (w.alloc (.cells cs.toArray T)):=by
  simp [execOp,g.eval j,Instr.box,newVar,newRow,l]
 rw[c];obtain⟨q,s⟩:=o.push T cs;exact p _ _ (k _ _ _ _ (g.put hd _) (i.alloc _) (by rw[i.heap];exact q) s)
def qC {T:TypeId}{v:Value}{α}{r:A4 α}{x:α}(y:Fr n a m) (z:BR m X=some v) (A:Rd S h r v x) (C:r.ag=false→r.sz=1) (hd:Nat.blt d n.1=true) (D:Wd B h w) (G:St S L h)
  (k:∀p a w S' h',Fr n a ((d,p)::m)→Wd B h' w→St S' L h'→B9 S h S' h'→Pt S' h' r p x→wpList P ops Q rest a w):
  wpList P ops Q (⟨some d,.box T X,ty,pos,af,none⟩::rest) a w:=by
 obtain⟨cs,H,g⟩:=A;have I:v.cells=cs.toArray:=by
  subst H;unfold A4.val;cases i:r.ag with
  |true=>rfl
  |false=>
   have t:=r.len g;rw[C i] at t
   match cs,t,g with
   |[c],_,g=>
    have J:=r.one g c (by simp);cases c<;>first|rfl|(simp [Value.oneCell'] at J)
 refine mW y z I hd D G λb a w h' l o q e=>?_;obtain⟨F,u,M,K,s⟩:=q.pub .head;refine k _ a w _ h' l o K (e.trans s) ⟨cs,⟨⟨b,0,none⟩,rfl,rfl,.inr ((u.1 _).2 rfl),λj U=>?_⟩,r.mono (r.mono g e.sub e.same) s.sub s.same⟩;simp only[Abz];exact Bx.cell u j
def zJ {T:TypeId}{cs:List Value}(o:Fr n a m) (c:EB P T=some cs) (hd:Nat.blt d n.1=true) (l:Wd B h w) (p:St S L h)
  (k:∀b a w h',Fr n a ((d,.pointer (some ⟨b,0,none⟩))::m)→Wd B h' w→St S (Bx b T cs::L) h'→B9 S h S h'→wpList P ops Q rest a w):
  wpList P ops Q (⟨some d,.alloc T,ty,pos,af,none⟩::rest) a w:=by
 refine wpList_plain rfl λK q=>?_;unfold Oper.wp;unfold EB at c;simp only[Acf,Ac6] at c;obtain⟨z,⟨i,s,c⟩,j⟩:=c;have t:z.cells=cs.toArray:=by rw[←j]
 have g:(execOp a.eval ⟨some d,.alloc T,ty,pos,af,none⟩).run P w= .ok (.value (.pointer (some ⟨w.heap.size,0,none⟩))) (w.alloc (.cells cs.toArray T)):=by
  simp [execOp,Instr.alloc,newVar,newRow,zeroValue,typeInfo,s,c,t]
 rw[g];obtain⟨u,v⟩:=p.push T cs;exact q _ _ (k _ _ _ _ (o.put hd _) (l.alloc _) (by rw[l.heap];exact u) v)
def Ii (cs:List Value) (o:Nat) (vs:List Value):List Value:=cs.take o++vs++cs.drop (o+vs.length)
def Qj (w:World) (g:Nat) (cur c':Array Value) (T:TypeId) (a:w.heap[g]? =some (.cells cur T (0,0))):
  ∃h',(w.setRow g c').heap=h'∧h'.size=w.heap.size∧h'[g]? =some (.cells c' T (0,0))∧∀b,b≠g→h'[b]? =w.heap[b]? :=by
 refine⟨_,rfl,?_,setRow_heap w g cur _ T _ a,λb c=>setRow_other w g b _ c⟩;simp [World.setRow]
def zG {T d:TypeId}{Y:Operand}{b o:Nat}{v:Value}{cs vs cs':List Value}{A:List HP}{sz:Nat}{ag:Bool}(t:Fr n a m) (I:BR m X=some (.pointer (some ⟨b,o,none⟩))) (J:BR m Y=some v) (U:v.cells=vs.toArray) (V:∀u∈vs,u.oneCell'=true)
  (W:Jw P T sz ag=true) (x:vs.length=sz) (g:Nat.ble (o+sz) cs.length=true) (Z:Ii cs o vs=cs') (j:Wd B h w) (C:St S L h) (r:Mu L (Bx b d cs) (Bx b d cs') A)
  (k:∀a w h',Fr n a m→Wd B h' w→St S A h'→B9 S h S h'→wpList P ops Q rest a w):
  wpList P ops Q (⟨none,.store T X Y,ty,pos,af,none⟩::rest) a w:=by
 refine wpList_plain rfl λK hK=>?_;unfold Oper.wp;obtain⟨M,p,_⟩:=r.pick;obtain⟨F,g1,g2,_⟩:=Sp.pick p C.2;have D:w.heap[b]? =some (.cells cs.toArray d (0,0)):=by rw[j.heap];exact g1.2
 obtain⟨i,dd,hi,hd,y,aa⟩:=Qg W;have l:=run_storeCells_at P b o d vs 0 cs.toArray w D (by simp;have:=Adl g;omega) V;have q:(List.take (o+0) cs.toArray.toList++vs++List.drop (o+0+vs.length) cs.toArray.toList)=cs':=by rw[←Z];simp [Ii]
 rw[q] at l;have s:(execOp a.eval ⟨none,.store T X Y,ty,pos,af,none⟩).run P w= .ok .skip (w.setRow b cs'.toArray):=by
  simp [execOp,t.eval I,t.eval J,Instr.storeAt,Instr.sureAddr,storeVar,U,RS hi,y,x,l]
 rw[s];obtain⟨h',e1,e2,e3,G⟩:=Qj w b cs.toArray cs'.toArray d D;rw[j.heap] at e2 G;obtain⟨u1,u2⟩:=C.upd (h':=h') r (by omega) λF H k2=>⟨F,⟨H.1,e3⟩,λc z=> .inl z,λc _ z=>G c λe=>z ((H.1 c).2 e)⟩
 exact hK _ _ (k _ _ h' t ⟨e1,j.os,j.tape,j.out⟩ u1 u2)
end
def Zh (vs:List Value):∀(cs:List Value) (o k:Nat),o+k+vs.length≤cs.length→
  (vs.zipIdx k).foldl (λcs (p:Value×Nat)=>cs.set (o+p.2) p.1) cs=cs.take (o+k)++vs++cs.drop (o+k+vs.length):=by
 induction vs with
 |nil=>intro cs o k h;simp
 |cons v vs b=>
  intro cs o k h;simp only[Acj] at h;simp only[List.zipIdx_cons,List.foldl_cons];rw[b (cs.set (o+k) v) o (k+1) (by simp;omega)];have a:o+k<cs.length:=by omega
  have c:o+(k+1)=(o+k)+1:=by omega
  have d:o+k+1+vs.length=o+k+(vs.length+1):=by omega
  rw[c,d,List.drop_set_of_lt (by omega),Acj,Acv (by simpa using a),List.getElem_set_self,List.take_set_of_le (by omega)];simp
def TN (f:Nat→Nat):∀(l:List (Value×Nat)) (cs:List Value),
  l.foldl (λ(cs:Array Value) (p:Value×Nat)=>cs.setIfInBounds (f p.2) p.1) cs.toArray=(l.foldl (λcs (p:Value×Nat)=>cs.set (f p.2) p.1) cs).toArray
 |[],cs=>rfl
 |p::l,cs=>by
  simp only[List.foldl_cons];rw[List.setIfInBounds_toArray,TN f l]
def NE (a:List (Nat×Nat)):List Value→List (Nat×Value)→Option (List Value)
 |cs,[]=>some cs
 |cs,(i,v)::r=>match a[i]? with
  |none=>none
  |some (off,sz)=>cond (Nat.beq v.cells.toList.length sz&&Nat.ble (off+sz) cs.length) (NE a (Ii cs off v.cells.toList) r) none
def N3 (a:List (Nat×Nat)):∀(pv:List (Nat×Value)) (cs cs':List Value),NE a cs pv=some cs'→Instr.fill (a.toArray[·]?) cs.toArray pv=some cs'.toArray
 |[],cs,cs',h=>by simp [NE] at h;subst h;rfl
 |(i,v)::r,cs,cs',h=>by
  simp only[NE] at h;split at h
  ·cases h
  ·rename_i off sz g;cases b:(Nat.beq v.cells.toList.length sz&&Nat.ble (off+sz) cs.length) with
   |false=>rw[b] at h;cases h
   |true=>
    rw[b] at h;simp only[Aax] at h;simp only[Aa3] at b;have j:v.cells.size=sz:=by simpa using Aa8 b.1
    have l:=Adl b.2;have k:=N3 a r _ cs' h;have d:a.toArray[i]? =some (off,sz):=by simpa using g
    simp only[Instr.fill,d];rw[Aaw (by simp [j];omega)];have c:v.cells.zipIdx.foldl (λ(cs:Array Value) (p:Value×Nat)=>cs.setIfInBounds (off+p.2) p.1) cs.toArray=(Ii cs off v.cells.toList).toArray:=by
     rw[←Array.foldl_toList,Array.toList_zipIdx,TN (off+ ·),Zh _ _ _ _ (by simp;omega)];simp [Ii]
    exact(Aaz (λx=>Instr.fill (a.toArray[·]?) x r) c).trans k
def Vj (P:Program) (T:TypeId):Option (List (Nat×Nat)×List Value):=
 match P.underlying T,EB P T with
 |some (.struct a),some z=>(a.toList.mapM (λf=>(P.info? f.type).map λi=>(f.offset,i.size))).map λb=>(b,z)
 |_,_=>none
def fP {P:Program}{T:TypeId}{pl z pv cs}(h:Vj P T=some (pl,z)) (g:NE pl z pv=some cs):P.built T pv=some cs.toArray:=by
 unfold Vj at h;split at h
 ·rename_i n j k a;simp only[Acf,Adm] at h;obtain⟨b,l,rfl,rfl⟩:=h;unfold EB at a;simp only[Acf,Ac6] at a;obtain⟨o,⟨i,m,c⟩,d⟩:=a;simp only[Program.built,m,k,c,l];have:=N3 b pv j cs g;rw[←d] at this;simpa using this
 ·cases h
def Mi:Value→Nat
 | .int _ _=>1| .bool _=>2| .string _=>3|_=>0
def Z0:Value→Value→Bool
 | .int _ a,.int _ b=>decide (a=b)
 | .bool a,.bool b=>a==b
 | .string a,.string b=>a==b
 |_,_=>false
def Wq:List Value→List Value→Bool
 |[],_=>true
 |_::_,[]=>true
 |a::r,b::s=>Z0 a b&&Wq r s
section
variable {P:Program}{ops:Array Oper}{C:World→Prop}{Q:Act→Prop}{n:FN}{a:Act}{m:List (Nat×Value)}{rest:List Oper}
variable {d:Nat}{ty:TypeId}{pos:String}{af:Array Edge}{X Y:Operand}
def jE (m:List (Nat×Value)) (p:Nat×Operand):Option (Nat×Value):=(BR m p.2).map λv=>(p.1,v)
def wG {T:TypeId}{b:Array (Nat×Operand)}{pl z pv cs}(o:Fr n a m) (s:Vj P T=some (pl,z)) (c:b.toList.mapM (jE m)=some pv) (q:NE pl z pv=some cs) (hd:Nat.blt d n.1=true)
  (k:∀a,Fr n a ((d,.agg cs.toArray)::m)→wpQuiet P ops C Q rest a):wpQuiet P ops C Q (⟨some d,.build T b,ty,pos,af,none⟩::rest) a:=by
 refine Du o hd (λw _=>?_) k;have i:(b.map λ(p:Nat×Operand)=>(p.1,a.eval p.2)).toList=pv:=by
  obtain⟨l⟩:=b;simp only at c;simp only[List.map_toArray];clear q k
  induction l generalizing pv with
  |nil=>simp at c;subst c;rfl
  |cons x l t=>
   simp only[Adv,Aeb,Ac6,jE,Acf] at c;obtain⟨y,⟨v,u,rfl⟩,A,j,g⟩:=c;simp only[Option.pure_def,Ab8] at g;subst g;simp only[Abl,o.eval u,t j]
 have:=run_build (P:=P) w T (b.map λ(p:Nat×Operand)=>(p.1,a.eval p.2)) cs.toArray (by rw[i];exact fP s q);simp only[execOp,Sem.run_bind,this];rfl
def jY (P:Program) (T:TypeId):Option (List Nat):=
 if P.stoodInHeld T||P.eqGuardType P.depth T then none else
 match P.underlying T with
 |some (.struct a)=>a.toList.zipIdx.mapM λ(f,i)=>
  if f.name== "_" || !Nat.beq f.offset i then none else
  match P.underlying f.type with
  |some (.int _)=>some 1
  |some .bool=>some 2
  |some .string=>some 3
  |_=>none
 |_=>none
def Qm {w:World}:∀(D:List Field) (t:List Nat) (i d:Nat) (xs c:List Value),
  (D.zipIdx i).mapM (λ(p:Field×Nat)=>if p.1.name== "_" || !Nat.beq p.1.offset p.2 then none else
   match P.underlying p.1.type with
   |some (.int _)=>some 1
   |some .bool=>some 2
   |some .string=>some 3
   |_=>none)=some t→(xs.drop i).map Mi=t→(c.drop i).map Mi=t→(∀(j:Nat) (G:IntKind) (n1:Int) (k2:IntKind) (n2:Int),xs[j]? =some (Value.int G n1)→c[j]? =some (Value.int k2 n2)→G=k2)→
  (Op.eqFields (d+1) xs.toArray c.toArray D).run P w= .ok (Wq (xs.drop i) (c.drop i)) w
 |[],t,i,d,xs,c,h,l,m,H=>by
  simp at h;subst h;have h1:xs.drop i=[]:=by simpa using l
  rw[h1];rfl
 |f::D,t,i,d,xs,c,h,l,m,H=>by
  simp only[List.zipIdx_cons,Adv,Aeb,Ac6] at h;obtain⟨G,a,I,u,v⟩:=h;simp only[Option.pure_def,Ab8] at v;subst v;split at a
  ·cases a
  ·rename_i g;simp only[Abq,not_or,Bool.not_eq_true,Abr,Bool.not_eq_false] at g;obtain⟨J,K⟩:=g;have A:=Aa8 K;have M:f.name≠ "_" :=by simpa using J
   cases n:xs.drop i with
   |nil=>rw[n] at l;simp at l
   |cons x xr=>
   cases o:c.drop i with
   |nil=>rw[o] at m;simp at m
   |cons y yr=>
   rw[n] at l;rw[o] at m;simp only[Abl,List.cons.injEq] at l m;have q:xs[i]? =some x:=by have:=Aaz (·[0]?) n;simpa using this
   have s:c[i]? =some y:=by have:=Aaz (·[0]?) o;simpa using this
   have B:xs.drop (i+1)=xr:=by have:=Aaz List.tail n;simpa [List.tail_drop] using this
   have C:c.drop (i+1)=yr:=by have:=Aaz List.tail o;simpa [List.tail_drop] using this
   have F:=Qm (w:=w) D I (i+1) d xs c u (by rw[B];exact l.2) (by rw[C];exact m.2) H;rw[B,C] at F;have b:∀Q,P.underlying f.type=some Q→kR Q=false→∀(U:List Value) z,U[i]? =some z→(part f.type U.toArray f.offset).run P w= .ok z w:=by
    intro Q V b U z hz;simp [part,UD V,b,A,hz]
   simp only[Op.eqFields,Aay M,Sem.run_bind,Wq];split at a
   ·rename_i kk k;simp only[Ab8] at a;subst a;rw[b _ k rfl xs x q];simp only[Result.andThen_ok];rw[b _ k rfl c y s];simp only[Result.andThen_ok];cases x<;>simp [Mi] at l;cases y<;>simp [Mi] at m;rename_i ka W kb X;have:=H i ka W kb X q s;subst this;rw[run_equalIn_int w d f.type ka kk W X k];simp only[Result.andThen_ok,Z0,Sem.run_ite,Sem.run_pure];rw[SY];cases decide (W=X)<;>simp [F]
   ·rename_i k;simp only[Ab8] at a;subst a;rw[b _ k rfl xs x q];simp only[Result.andThen_ok];rw[b _ k rfl c y s];simp only[Result.andThen_ok];cases x<;>simp [Mi] at l;cases y<;>simp [Mi] at m;rw[run_equalIn_bool' w d f.type _ _ k];simp only[Result.andThen_ok,Z0,Sem.run_ite,Sem.run_pure];rename_i Y Z;cases (Y==Z)<;>simp [F]
   ·rename_i k;simp only[Ab8] at a;subst a;rw[b _ k rfl xs x q];simp only[Result.andThen_ok];rw[b _ k rfl c y s];simp only[Result.andThen_ok];cases x<;>simp [Mi] at l;cases y<;>simp [Mi] at m;rw[run_equalIn_string w d f.type _ _ k];simp only[Result.andThen_ok,Z0,Sem.run_ite,Sem.run_pure];rename_i Y Z;rw[beq_toListBytes];cases (Y.toList==Z.toList)<;>simp [F]
   ·cases a
def Ql:List Value→List Value→Bool
 | .int k _::r,.int l _::s=>decide (k=l)&&Ql r s
 |_::r,_::s=>Ql r s
 |_,_=>true
def Sz:∀(xs p:List Value),Ql xs p=true→∀(j:Nat) (c:IntKind) (m:Int) (d:IntKind) (n:Int),xs[j]? =some (Value.int c m)→p[j]? =some (Value.int d n)→c=d
 |[],_,_,j,_,_,_,_,h,_=>by simp at h
 |_::_,[],_,j,_,_,_,_,_,h=>by simp at h
 |x::r,y::s,h,0,c,m,d,n,g,i=>by
  simp only[Ac7,Ab8] at g i;subst g;subst i;simp only[Ql,Aa3,Abh] at h;exact h.1
 |x::r,y::s,h,j+1,c,m,d,n,g,i=>by
  simp only[Ac3] at g i;refine Sz r s ?_ j c m d n g i;unfold Ql at h;split at h
  ·rename_i k l;simp only[Aa3] at h;injection k with k a;injection l with l b
   subst a;subst b;exact h.2
  ·rename_i k l;injection k with k a;injection l with l b
   subst a;subst b;exact h
  ·rename_i q o;exact absurd rfl (o _ _ _ _ rfl)
def WX {T:TypeId}{c:List Nat}{xs a:List Value}{w:World}(h:jY P T=some c) (k:xs.map Mi=c) (l:a.map Mi=c) (m:Ql xs a=true):
  (Op.equalIn 10000 T (.agg xs.toArray) (.agg a.toArray)).run P w= .ok (Wq xs a) w∧∀(d:BinOp) (x y:Operand),(eqGuard d T x y (.agg xs.toArray) (.agg a.toArray)).run P w= .ok () w:=by
 unfold jY at h;split at h
 ·cases h
 ·rename_i g;simp only[Abq,not_or,Bool.not_eq_true] at g;split at h
  ·rename_i i j;refine⟨?_,λd x y=>run_eqGuard_agg w d T x y _ _ g.2⟩;have b:P.fieldsOf T=i:=by simp [Program.fieldsOf,j]
   have:=run_equalIn_struct (P:=P) w 9999 T xs.toArray a.toArray (by rw[b];exact j) g.1;rw[this,b];exact Qm i.toList c 0 9998 xs a h (by simpa using k) (by simpa using l) (Sz xs a m)
  ·cases h
def vO {T t2:TypeId}{ks xs ys}(b:Fr n a m) (i:BR m X=some (.agg xs)) (j:BR m Y=some (.agg ys)) (l:jY P T=some ks) (o:xs.toList.map Mi=ks) (p:ys.toList.map Mi=ks) (q:Ql xs.toList ys.toList=true) (hd:Nat.blt d n.1=true)
  (k:∀a,Fr n a ((d,.bool (!Wq xs.toList ys.toList))::m)→wpQuiet P ops C Q rest a):wpQuiet P ops C Q (⟨some d,.binOp .neq T X Y t2,ty,pos,af,none⟩::rest) a:=
 Du b hd (λw _=>by
  obtain⟨c,g⟩:=WX (w:=w) l o p q;simp only[Array.toArray_toList] at c g;simp [execOp,b.eval i,b.eval j,g,run_neq_struct,c]) k
def vY {S:Nat→Prop}{L:List HP}{h:AV}{t T b o sz:Nat}{ag:Bool}{cs vs:List Value}(q:CK C h) (s:St S L h) (l:Fr n a m) (u:BR m X=some (.pointer (some ⟨b,o,none⟩))) (v:Bx b T cs∈L) (x:(cs.drop o).take sz=vs) (y:Nat.beq vs.length sz=true) (z:Jw P t sz ag=true) (A:(ag||Nat.beq sz 1)=true) (hd:Nat.blt d n.1=true)
  (k:∀a,Fr n a ((d,if ag then .agg vs.toArray else vs.headD undef)::m)→wpQuiet P ops C Q rest a):wpQuiet P ops C Q (⟨some d,.load t X,ty,pos,af,none⟩::rest) a:=by
 refine Du l hd (λw B=>?_) k;obtain⟨F,c,i⟩:=s.get v;have D:(Bx b T cs).holds S F w.heap:=⟨c.1,(q w B b (i b ((c.1 b).2 rfl)).1).trans c.2⟩
 have g:=Aa8 y;have:=Ny (P:=P) (w:=w) (S:=λ_=>True) (p:= .pointer (some ⟨b,o,none⟩)) (cs:=vs) (sz:=sz) (ag:=ag) (t:=t) ⟨⟨b,o,none⟩,rfl,rfl,trivial,λj G=>by
  rw[Bx.cell D,←x,Aci (by omega),Add]⟩ g z (λe=>by subst e;simpa using A)
 simp [execOp,l.eval u,this]
end
def LS {α}(S:Nat→Prop) (h:AV) (r:A4 α):List Value→List α→Prop
 |cs,[]=>cs=[]
 |cs,x::l=>∃a b,cs=a++b∧r.rd S h a x∧LS S h r b l
def LS.mono {α S S' h h'}{r:A4 α}:∀{l:List α}{cs},LS S h r cs l→(∀b,S b→S' b)→(∀b,S b→h'[b]? =h[b]?)→LS S' h' r cs l
 |[],_,k,_,_=>k
 |_::_,_,⟨a,c,e,d,g⟩,s,q=>⟨a,c,e,r.mono d s q,g.mono s q⟩
def LS.len {α S h}{r:A4 α}:∀{l:List α}{cs},LS S h r cs l→cs.length=l.length*r.sz
 |[],_,k=>by have k:_=[]:=k;subst k;simp
 |_::l,_,⟨c,d,e,a,b⟩=>by subst e;rw[Abi,r.len a,b.len,Acj,Acw];omega
def LS.one {α S h}{r:A4 α}:∀{l:List α}{cs},LS S h r cs l→∀v∈cs,v.oneCell'=true
 |[],_,k,v,a=>by have k:_=[]:=k;subst k;cases a
 |_::_,_,⟨d,g,e,b,c⟩,v,a=>by subst e;exact(Ab3.1 a).elim (r.one b v) (c.one v)
def LS.append {α S h}{r:A4 α}:∀{l c:List α}{cs a},LS S h r cs l→LS S h r a c→LS S h r (cs++a) (l++c)
 |[],_,_,_,k,b=>by have k:_=[]:=k;subst k;exact b
 |_::_,_,_,_,⟨d,g,e,i,b⟩,j=>by subst e;exact⟨d,g++_,by simp,i,b.append j⟩
def LS.at_ {α S h}{r:A4 α}:∀{l:List α}{cs}{i:Nat}{x},LS S h r cs l→l[i]? =some x→r.rd S h ((cs.drop (i*r.sz)).take r.sz) x
 |[],_,_,_,_,a=>by simp at a
 |y::l,_,0,x,⟨b,c,e,d,g⟩,a=>by
  subst e;simp only[Ac7,Ab8] at a;subst a;have:=r.len d;simp only[Nat.zero_mul,List.drop_zero,←this,Adn];exact d
 |y::l,_,i+1,x,⟨b,c,e,d,g⟩,a=>by
  subst e;simp only[Ac3] at a;have j:=r.len d;have m:(i+1)*r.sz=b.length+i*r.sz:=by rw[j,Acw];omega
  rw[m,List.drop_append_of_le_length_add];exact g.at_ a
 where
 List.drop_append_of_le_length_add:∀{b c:List Value} {k:Nat},(b++c).drop (b.length+k)=c.drop k:=by
  intro b c k;rw[←List.drop_drop,List.drop_left]
def WI (cs:List Value) (o:Nat) (vs:List Value) (h:o+vs.length≤cs.length):(Ii cs o vs).length=cs.length:=by
 simp [Ii];omega
def LS.set {α S h}{r:A4 α}:∀{l:List α}{cs}{i o:Nat}{x y}{vs:List Value},LS S h r cs l→l[i]? =some x→o+vs.length≤r.sz→(∀c,r.rd S h c x→r.rd S h (Ii c o vs) y)→LS S h r (Ii cs (i*r.sz+o) vs) (l.set i y)
 |[],_,_,_,_,_,_,_,a,_,_=>by simp at a
 |z::l,_,0,o,x,y,vs,⟨b,g,e,d,j⟩,a,m,k=>by
  subst e;simp only[Ac7,Ab8] at a;subst a;have n:=r.len d;refine⟨Ii b o vs,g,?_,k _ d,j⟩;simp only[Ii,Nat.zero_mul,Abz];rw[List.take_append_of_le_length (by omega),List.drop_append_of_le_length (by omega)];simp
 |z::l,_,i+1,o,x,y,vs,⟨b,g,e,d,j⟩,a,m,k=>by
  subst e;simp only[Ac3] at a;have n:=r.len d;refine⟨b,Ii g (i*r.sz+o) vs,?_,d,j.set a m k⟩;have p:(i+1)*r.sz+o=b.length+(i*r.sz+o):=by rw[n,Acw];omega
  simp only[Ii];rw[p,Adj b.length,←List.drop_drop,List.drop_left,List.take_length_add_append];simp
def OS {α}(r:A4 α) (T:TypeId) (v:Value) (l:List α):HP where
 holds:=λS F h=>((∃a,v= .slice a 0 0)∧l=[]∧∀b,¬F b)∨
  ∃g cap cur,v= .slice (some ⟨g,0,none⟩) l.length cap∧(∀b,F b↔b=g)∧h[g]? =some (.cells cur T (0,0))∧l.length≤cap∧cap≤maxLen∧cur.size=cap*r.sz∧LS S h r (cur.toList.take (l.length*r.sz)) l
 loc:=λk s e=>by
  rcases k with k|⟨g,cap,cur,k1,k2,k3,k4,k5,k6,k7⟩
  ·exact .inl k
  ·exact .inr ⟨g,cap,cur,k1,k2,(e g (.inr ((k2 g).2 rfl))).trans k3,k4,k5,k6,k7.mono s λb c=>e b (.inl c)⟩
section
variable {α:Type}{r:A4 α}{T:TypeId}{v:Value}{l:List α}{S F:Nat→Prop}{h:AV}{L L2:List HP}
def OS.len (k:(OS r T v l).holds S F h):∃a cap,v= .slice a l.length cap∧l.length≤maxLen:=by
 rcases k with ⟨⟨a,b⟩,h2,_⟩|⟨g,cap,cur,b,h2,h3,h4,h5,_⟩
 ·subst h2;exact⟨a,0,b,Aa4 _⟩
 ·exact⟨_,cap,b,Acd h4 h5⟩
def St.oslen (a:St S L h) (b:OS r T v l∈L):∃c cap,v= .slice c l.length cap∧l.length≤maxLen:=by
 obtain⟨F,k,_⟩:=a.get b;exact OS.len k
def St.nil (a:St S L h) (r:A4 α) (T:TypeId):St S (OS r T (.slice none 0 0) ([]:List α)::L) h:=
 (a.add (Abd _) (λ_ _=>rfl) ⟨λ_=>False,Or.inl ⟨⟨none,rfl⟩,rfl,λ_ x=>x⟩,λ_ x=>x.elim⟩).1
def OS.sl (k:(OS r T v l).holds S F h) (s:∀b,F b→S b):Sl S h r v l:=by
 rcases k with ⟨⟨d,a⟩,h2,_⟩|⟨g,cap,cur,a,h2,h3,h4,h5,h6,h7⟩
 ·subst h2;cases d with
  |none=>exact .inl ⟨a,rfl⟩
  |some d=>exact .inr ⟨d,0,a,Abd _,Aa4 _,λi x c=>by simp at c⟩
 ·refine .inr ⟨⟨g,0,none⟩,cap,a,h4,h5,λi x c=>⟨rfl,?_⟩⟩;have m:=h7.at_ c;have n:i<l.length:=(Aba.1 c).1;have p:i*r.sz+r.sz≤l.length*r.sz:=by rw[←Acw];exact Acq _ n
  refine⟨_,⟨⟨g,0+i*r.sz,none⟩,rfl,rfl,s g ((h2 g).2 rfl),λj q=>?_⟩,m⟩;have o:j<r.sz:=by simp only[Aca,Aco] at q;omega
  simp only[IZ,h3,Abz,Adw,Acz,Ac0];rw[Aci o,Add,Aci (by omega),Array.getElem?_toList]
def St.pubs (c:St S L h) (p:Px L (OS r T v l) L2):∃S',St S' L2 h∧B9 S h S' h∧Sl S' h r v l:=by
 obtain⟨F,d,j,g,a⟩:=c.pub p;exact⟨_,g,a,OS.sl (HP.loc _ d a.sub λ_ _=>rfl) λb i=> .inr i⟩
def St.oslAll (c:St S L h) (d:OS r T v l∈L):Sl (λb=>b<h.size) h r v l:=by
 obtain⟨F,g,i⟩:=c.get d;exact OS.sl (HP.loc _ g (λb a=>c.1 b a) λ_ _=>rfl) λb a=>(i b a).1
def St.osAt (p:St S L h) (q:OS r T v l∈L) {i:Nat}{x:α}(a:l[i]? =some x):
  ∃(g cap:Nat),v= .slice (some ⟨g,0,none⟩) l.length cap∧My (λb=>b<h.size) S h r (.pointer (some ⟨g,i*r.sz,none⟩)) x:=by
 obtain⟨F,k,s⟩:=p.get q;rcases k with ⟨o,c,_⟩|⟨g,cap,cur,o,c,k3,k4,k5,k6,k7⟩
 ·subst c;simp at a
 ·have d:=k7.at_ a;have m:i<l.length:=(Aba.1 a).1;have t:i*r.sz+r.sz≤l.length*r.sz:=by rw[←Acw];exact Acq _ m
  refine⟨g,cap,o,_,⟨⟨g,i*r.sz,none⟩,rfl,rfl,(s g ((c g).2 rfl)).1,λj u=>?_⟩,d⟩;have n:j<r.sz:=by simp only[Aca,Aco] at u;omega
  simp only[IZ,k3,Adw,Acz,Ac0];rw[Aci n,Add,Aci (by omega),Array.getElem?_toList]
end
def EP (v:Value) (k:Nat) (q:Value):Prop:=∃g n c,v= .slice (some ⟨g,0,none⟩) n c∧q= .pointer (some ⟨g,k,none⟩)
def OY (P:Program) (t:TypeId):Option (TypeId×Nat×Nat×List Value):=
 match P.underlying t with
 |some (.slice e)=>match P.info? e with
  |some i=>match i.zero with
   |some z=>if i.size=0|| !(z.cells.size==i.size) then none else some (e,i.size,i.bytes,z.cells.toList)
   |none=>none
  |none=>none
 |_=>none
def K1 {P t e sz by_ z}(h:OY P t=some (e,sz,by_,z)):∃i a,P.underlying t=some (.slice e)∧P.info? e=some i∧i.zero=some a∧i.size=sz∧i.bytes=by_∧a.cells=z.toArray∧z.length=sz∧0<sz:=by
 unfold OY at h;split at h
 ·rename_i j c;split at h
  ·rename_i i d;split at h
   ·rename_i a g;split at h
    ·cases h
    ·rename_i b;simp only[Ab8,Adm] at h;obtain⟨rfl,rfl,rfl,rfl⟩:=h;simp only[Abq,Abh,not_or,Bool.not_eq_true,Ac8,beq_iff_eq] at b;exact⟨i,a,c,d,g,rfl,rfl,by simp,by simpa using b.2,by omega⟩
   ·cases h
  ·cases h
 ·cases h
section
variable {P:Program}{ops:Array Oper}{Q:Exit→Act→World→Prop}{n:FN}{a:Act}{m:List (Nat×Value)}{rest:List Oper}
variable {d:Nat}{ty:TypeId}{pos:String}{af:Array Edge}{X Y:Operand}{B w:World}{h:AV}{S:Nat→Prop}{L L2:List HP}
def R5 {α}{r:A4 α}{S h}{z:List Value}{x:α}(a:r.rd S h z x) (c:Nat):LS S h r (List.replicate c z).flatten (List.replicate c x):=by
 induction c with
 |zero=>rfl
 |succ c b=>exact⟨z,_,by simp [List.replicate_succ],a,b⟩
def Mh (z:List Value) (c:Nat) (l:0<z.length):(madeCells z.toArray (c*z.length)).toList=(List.replicate c z).flatten:=by
 induction c with
 |zero=>simp [madeCells]
 |succ c j=>
  have k:List.replicate (c+1) z=List.replicate c z++[z]:=by rw[List.replicate_succ']
  rw[k,List.flatten_append,←j];apply Acc;intro i;have g:(madeCells z.toArray (c*z.length)).toList.length=c*z.length:=by simp [size_madeCells]
  rw[List.getElem?_append];simp only[madeCells,Array.toList_map,Array.toList_range,Ac1,List.length_range];have m:(c+1)*z.length=c*z.length+z.length:=Acw _ _;by_cases a:i<c*z.length
  ·rw[Aay a];simp [List.getElem?_range a,List.getElem?_range (show i<(c+1)*z.length by omega)]
  ·rw[Aaw a];by_cases b:i<(c+1)*z.length
   ·have e:i%z.length=i-c*z.length:=by
     have:i=(i-c*z.length)+z.length*c:=by rw[Ado z.length c];omega
     rw[this,Nat.add_mul_mod_self_left,Adx (by omega),Ado];omega
    have d:i-c*z.length<z.length:=by omega
    simp [List.getElem?_range b,e,d]
   ·rw[Abv (by simp;omega),Abv (by simp;omega)]
def zH {α}{r:A4 α}{T e sz g:Nat}{z:List Value}{zx:α}{len cap:Nat}{C D:IntKind}{U V:Operand}(u:Fr n a m) (I:OY P T=some (e,sz,g,z)) (l:r.sz=sz) (J:r.rd S h z zx)
  (M:BR m U=some (.int C (len:Nat))) (W:BR m V=some (.int D (cap:Nat))) (o:len≤cap) (X:g*cap≤281474976710656) (p:cap≤maxLen) (hd:Nat.blt d n.1=true) (F:Wd B h w) (G:St S L h)
  (k:∀v a w h',Fr n a ((d,v)::m)→Wd B h' w→St S (OS r e v (List.replicate len zx)::L) h'→B9 S h S h'→wpList P ops Q rest a w):
  wpList P ops Q (⟨some d,.makeSlice T U V,ty,pos,af,none⟩::rest) a w:=by
 refine wpList_plain rfl λK Y=>?_;unfold Oper.wp;obtain⟨i,Z,h1,h2,h3,h4,h5,h6,H,h8⟩:=K1 I;have q:=run_make (P:=P) w T e i Z h1 h2 h3 C D (len:Int) (cap:Int) (by omega) (by omega) (by rw[h5];omega) (by unfold maxLen at p;omega);simp only[Ab0,h6,h4] at q;have s:(execOp a.eval ⟨some d,.makeSlice T U V,ty,pos,af,none⟩).run P w= .ok (.value (.slice (some ⟨w.heap.size,0,none⟩) len cap)) (w.alloc (.cells (madeCells z.toArray (cap*sz)) e)):=by
  simp [execOp,u.eval M,u.eval W,q]
 rw[s];have c:(madeCells z.toArray (cap*sz)).toList=(List.replicate cap z).flatten:=by rw[←H];exact Mh z cap (by omega)
 have y:(OS r e (.slice (some ⟨h.size,0,none⟩) len cap) (List.replicate len zx)).holds S (λb=>b=h.size) (h.push (.cells (madeCells z.toArray (cap*sz)) e)):=by
  refine .inr ⟨h.size,cap,madeCells z.toArray (cap*sz),by simp,λ_=>Acp,Kq _ _,by simpa using o,p,by rw[size_madeCells,l],?_⟩;rw[c];have:((List.replicate cap z).flatten).take ((List.replicate len zx).length*r.sz)=(List.replicate len z).flatten:=by
   obtain⟨j,rfl⟩:=Nat.exists_eq_add_of_le o;rw[←List.replicate_append_replicate,List.flatten_append,Ad4,l,←H];have:(List.replicate len z).flatten.length=len*z.length:=by simp
   rw[←this,Adn]
  rw[this];exact(R5 J len).mono (λ_ x=>x) λb t=>Gw _ _ _ (G.1 b t)
 obtain⟨g1,g2⟩:=G.add (h':=h.push (.cells (madeCells z.toArray (cap*sz)) e)) (by simp) (λb t=>Gw _ _ _ t) ⟨_,y,λb t=>by subst t;simp⟩;have A:=F.heap;exact Y _ _ (k _ _ _ _ (u.put hd _) (F.alloc _) (by rw[A];exact g1) g2)
def Js (n b:Nat):Prop:=n*b≤140737488355328∨(n*b≤175921860444160∧b≤274877906944)
def Js.le {n b:Nat}(h:Js n b):n*b≤281474976710656:=by unfold Js at h;omega
def OB {a b bytes:Nat}(h:b<a) (c:Js a bytes):Builtin.nextslicecap a b*bytes≤281474976710656:=by
 rcases c with c|⟨h1,h2⟩
 ·exact growslice_fits h c
 ·refine growslice_fits_wide h ?_;have d:=Acq bytes (Nat.div_mul_le_self a 4);rw[Nat.mul_right_comm] at d;rw[Acg,Acg];omega
def Uv {α}{r:A4 α}{T ty e sz Q:Nat}{z:List Value}{v s:Value}{l xs:List α}{J:Addr}{sc:Nat}{a:List Value}{F:Nat→Prop}(he:OY P T=some (e,sz,Q,z)) (c:r.sz=sz)
  (af:s= .slice (some J) xs.length sc) (V:LS S h r a xs) (hc:∀j u,a[j]? =some u→IZ h (J.add j)=some u)
  (W:l.length+xs.length≤maxLen) (X:Js (l.length+xs.length) Q) (d:Wd B h w) (k:(OS r e v l).holds S F h) (hS:∀b,S b→b<h.size∧¬F b):
  ∃v' w' h' F',(Builtin.append_ #[T,T] ty #[v,s]).run P w= .ok v' w'∧Wd B h' w'∧h.size≤h'.size∧(OS r e v' (l++xs)).holds S F' h'∧(∀b,F' b→F b∨(h.size≤b∧b<h'.size))∧∀b,b<h.size→¬F b→h'[b]? =h[b]? :=by
 obtain⟨i,K,Y,Z,h3,G,h5,h6,h7,h8⟩:=K1 he;subst af;have m:=V.len;rw[c,←G] at m;have aa:l.length+xs.length≤9223372036854775807:=by unfold maxLen at W;omega
 have H:∀j u,a[j]? =some u→w.cell? (J.add j)=some u:=λj u I=>by rw[I7,d.heap];exact hc j u I
 have ag:K.cells.size=sz:=by rw[h6];simpa using h7
 have t:∀(p:List Value) (q:Nat),LS S h r p l→q<l.length+xs.length→
   (OS r e (.slice (some ⟨h.size,0,none⟩) (l.length+xs.length) (grownCap w (l.length+xs.length) q e)) (l++xs)).holds S (λb=>b=h.size)
    (h.push (.cells (p.toArray++a.toArray++Builtin.zeroCells K.cells (grownCap w (l.length+xs.length) q e-(l.length+xs.length))) e)):=by
  intro p q ho aj;have ah:=grownCap_ge w (l.length+xs.length) q e;refine .inr ⟨h.size,_,_,by rw[Abi],λ_=>Acp,Kq _ _,by rw[Abi];exact ah,grownCap_le_maxLen w _ q e W,?_,?_⟩
  ·have:=ho.len;simp only[Array.size_append,Adp,size_zeroCells,ag,this,m,G,c,←Acg];congr 1;omega
  ·have y:(l++xs).length*r.sz=(p++a).length:=by rw[Abi,Abi,ho.len,V.len,Acg]
   rw[y];simp only[Array.toList_append];rw[Adn];exact(ho.append V).mono (λ_ x=>x) λb n=>Gw _ _ _ (hS b n).1
 rcases k with ⟨⟨U,rfl⟩,rfl,hF⟩|⟨g,cap,cur,rfl,hF,hg,hlc,hcm,hcs,hrd⟩
 ·by_cases hx:xs.length=0
  ·have ai:xs=[]:=Ad5 hx;subst ai;refine⟨.slice U 0 0,w,h,F,?_,d,Abd _,.inl ⟨⟨U,rfl⟩,rfl,hF⟩,λb n=> .inl n,λ_ _ _=>rfl⟩;cases U<;>simp [Builtin.append_,run_underlying Y,sizeOf,typeInfo,Z,Builtin.lenOf,Builtin.firstCells,loadCells,loadCellsFrom,storeCells]
  ·have M:Js xs.length Q:=by simpa using X
   have ak:=M.le;have hr:(Builtin.append_ #[T,T] ty #[.slice U 0 0,.slice (some J) xs.length sc]).run P w= .ok (.slice (some ⟨w.heap.size,0,none⟩) xs.length (grownCap w xs.length 0 e)) (w.drew.alloc (.cells (a.toArray++Builtin.zeroCells K.cells (grownCap w xs.length 0 e-xs.length)) e)):=by
    cases U with
    |none=>exact run_append_nil (P:=P) w T ty e i K Y Z h3 J xs.length sc a m H (by omega) (by simp at aa;omega) (by rw[h5];omega)
    |some U=>
     have hq:=run_append_grow (P:=P) w T ty e i K Y Z h3 U 0 0 [] (by simp) (λj u I=>by simp at I) J xs.length sc a m H (by omega) (by omega) (OB (by omega) (by rw[h5];simpa using M));simpa using hq
   have A:=t [] 0 rfl (by simp;omega);simp only[List.length_nil,Abz,Abj,Array.empty_append] at A;refine⟨_,_,h.push (.cells (a.toArray++Builtin.zeroCells K.cells (grownCap w xs.length 0 e-xs.length)) e),λb=>b=h.size,hr,⟨?_,d.os,d.tape,d.out⟩,by simp,?_,λb n=> .inr (by subst n;simp),λb n _=>Gw _ _ _ n⟩
   ·show(w.heap.push _)=_;rw[d.heap]
   ·rw[d.heap];exact A
 ·have ab:w.heap[g]? =some (.cells cur e (0,0)):=by rw[d.heap];exact hg
  by_cases o:l.length+xs.length≤cap
  ·have ac:l.length*i.size+a.length≤cur.size:=by rw[m,hcs,G,c,←Acg];exact Acq _ o
   have hr:=run_append_room (P:=P) w T ty e i Y Z g l.length cap cur ab J xs.length sc a m H (λu I=>V.one u I) o ac;obtain⟨h',e1,e2,e3,e4⟩:=Qj w g cur (c':=(cur.toList.take (l.length*i.size)++a++cur.toList.drop (l.length*i.size+a.length)).toArray) e ab;rw[d.heap] at e2 e4;refine⟨_,_,h',F,hr,⟨e1,d.os,d.tape,d.out⟩,by omega,.inr ⟨g,cap,_,by rw[Abi],hF,e3,by rw[Abi];exact o,hcm,?_,?_⟩,λb n=> .inl n,λb _ n=>e4 b λe=>n ((hF b).2 e)⟩
   ·simp only[Adp,Abi,Aca,Aco,Aec];omega
   ·have C:=hrd.len;rw[c,←G] at C;have y:(l++xs).length*r.sz=(cur.toList.take (l.length*i.size)++a).length:=by
     rw[Abi,Abi,C,m,Acg,c,G]
    rw[y,Adn,G,←c];exact(hrd.append V).mono (λ_ x=>x) λb n=>e4 b λe=>(hS b n).2 ((hF b).2 e)
  ·have D:∀j u,(cur.toList.take (l.length*r.sz))[j]? =some u→w.cell? ((⟨g,0,none⟩:Addr).add j)=some u:=λj u I=>by
    have ae:(⟨g,0,none⟩:Addr).add j=⟨g,j,none⟩:=by unfold Addr.add;split<;>simp_all
    rw[ae,I7,d.heap];have hj:j<l.length*r.sz:=by
     have:=(Aba.1 I).1;simp at this;omega
    rw[Aci hj] at I;simp only[IZ,hg,Adw,Acz,Ac0];simpa using I
   have C:=hrd.len;rw[c,←G] at C;rw[c,←G] at D;have hr:=run_append_grow (P:=P) w T ty e i K Y Z h3 ⟨g,0,none⟩ l.length cap _ C D J xs.length sc a m H (by omega) (by omega) (OB (by omega) (by rw[h5];exact X));have A:=t _ cap hrd (by omega);rw[c,←G] at A;refine⟨_,_,h.push (.cells ((cur.toList.take (l.length*i.size)).toArray++a.toArray++Builtin.zeroCells K.cells (grownCap w (l.length+xs.length) cap e-(l.length+xs.length))) e),λb=>b=h.size,hr,⟨?_,d.os,d.tape,d.out⟩,by simp,?_,λb n=> .inr (by subst n;simp),λb n _=>Gw _ _ _ n⟩
   ·show(w.heap.push _)=_;rw[d.heap]
   ·rw[d.heap];exact A
def wL {α}{r:A4 α}{T e sz C:Nat}{z:List Value}{v s:Value}{l xs:List α}{sd:Addr}{sc:Nat}{y:List Value}{LL:Value→List HP}(g:Fr n a m) (hx:BR m X=some v) (hy:BR m Y=some s) (he:OY P T=some (e,sz,C,z)) (D:r.sz=sz)
  (H:s= .slice (some sd) xs.length sc) (hn:LS S h r y xs) (hc:∀j u,y[j]? =some u→IZ h (sd.add j)=some u)
  (I:l.length+xs.length≤maxLen) (J:Js (l.length+xs.length) C) (hd:Nat.blt d n.1=true) (hw:Wd B h w) (A:St S L h) (rp:∀i,Mu L (OS r e v l) (OS r e i (l++xs)) (LL i))
  (k:∀i a w h',Fr n a ((d,i)::m)→Wd B h' w→St S (LL i) h'→B9 S h S h'→wpList P ops Q rest a w):
  wpList P ops Q (⟨some d,.call ⟨.builtin .append,#[X,Y],#[T,T]⟩,ty,pos,af,none⟩::rest) a w:=by
 refine wpList_plain rfl λK hK=>?_;unfold Oper.wp;obtain⟨M,p,_⟩:=(rp v).pick;obtain⟨F,g1,g2,_⟩:=Sp.pick p A.2;obtain⟨i,w',h',F',e1,e2,e3,e4,e5,e6⟩:=Uv (ty:=ty) he D H hn hc I J hw g1 λb c=>⟨A.1 b c,λg=>(g2 b g).2 c⟩
 have U:(execOp a.eval ⟨some d,.call ⟨.builtin .append,#[X,Y],#[T,T]⟩,ty,pos,af,none⟩).run P w= .ok (.value i) w':=by
  simp [execOp,resolve,invoke,builtin,g.eval hx,g.eval hy,e1]
 rw[U];obtain⟨M,p,q⟩:=(rp i).pick;have V:St S (LL i) h'∧B9 S h S h':=by
  obtain⟨G,ad,o,ae⟩:=Sp.pick p A.2;obtain⟨al,am,W,ag,Z,ah,t,ai,aa,ab⟩:=Uv (ty:=ty) he D H hn hc I J hw ad λb c=>⟨A.1 b c,λg=>(o b g).2 c⟩
  rw[e1] at Z;injection Z with ev ew
  subst ev;subst ew;have hh:W=h':=by rw[←ah.heap,e2.heap]
  subst hh;have ac:∀b,S b→W[b]? =h[b]? :=λb c=>ab b (A.1 b c) λg=>(o b g).2 c;refine⟨⟨λb c=>Aa9 (A.1 b c) t,MZ q ⟨ag,ai,λb c=>?_,?_⟩⟩,λ_ x=>x,ac,t⟩
  ·rcases aa b c with g|⟨hl,hu⟩
   ·exact⟨Aa9 (o b g).1 t,(o b g).2⟩
   ·exact⟨hu,λaj=>absurd (A.1 b aj) (by omega)⟩
  ·refine Sp.ext ae (λ_ x=>x) (λb c=>?_) λb c=>⟨⟨Aa9 c.1.1 t,c.1.2⟩,λak=>?_⟩
   ·rcases c with c|c
    ·exact ac b c
    ·exact ab b c.1.1 c.2
   ·rcases aa b ak with g|⟨hl,_⟩
    ·exact c.2 g
    ·exact absurd c.1.1 (by omega)
 exact hK _ _ (k i _ w' h' (g.put hd _) e2 V.1 V.2)
def qE {α}{r:A4 α}{T e sz g:Nat}{z:List Value}{v:Value}{l xs:List α}{p A b sc:Nat}{c:List Value}{LL:Value→List HP}(C:Fr n a m) (D:BR m X=some v) (G:BR m Y=some (.slice (some ⟨p,0,none⟩) b sc)) (H:OY P T=some (e,sz,g,z)) (q:r.sz=sz)
  (I:Bx p A c∈L) (J:LS S h r c xs) (s:b=xs.length)
  (t:l.length+xs.length≤maxLen) (x:Js (l.length+xs.length) g) (hd:Nat.blt d n.1=true) (K:Wd B h w) (y:St S L h) (M:∀i,Mu L (OS r e v l) (OS r e i (l++xs)) (LL i))
  (k:∀i a w h',Fr n a ((d,i)::m)→Wd B h' w→St S (LL i) h'→B9 S h S h'→wpList P ops Q rest a w):
  wpList P ops Q (⟨some d,.call ⟨.builtin .append,#[X,Y],#[T,T]⟩,ty,pos,af,none⟩::rest) a w:=by
 obtain⟨F,U,_⟩:=y.get I;refine wL C D G H q (by rw[s]) J (λj u V=>?_) t x hd K y M k;have o:(⟨p,0,none⟩:Addr).add j=⟨p,j,none⟩:=by unfold Addr.add;split<;>simp_all
 rw[o,Bx.cell U];exact V
def U2 (e:Nat) (len:Nat):List (Nat×Nat):=(List.range len).map λi=>(i*e,e)
def zI {T e sz H len:Nat}{z cs:List Value}{g:Array (Nat×Operand)}{pv:List (Nat×Value)}(W:Fr n a m) (he:OY P T=some (e,sz,H,z)) (q:g.toList.mapM (jE m)=some pv)
  (X:NE (U2 sz len) (List.replicate len z).flatten pv=some cs) (I:Nat.blt 0 len=true) (J:Nat.ble (len*sz) 16777216=true) (hd:Nat.blt d n.1=true) (Y:Wd B h w) (hs:St S L h)
  (o:∀p∈pv,p.1<len)
  (k:∀b a w h',Fr n a ((d,.slice (some ⟨b,0,none⟩) len len)::m)→Wd B h' w→St S (Bx b e cs::L) h'→B9 S h S h'→wpList P ops Q rest a w):
  wpList P ops Q (⟨some d,.buildSlice T len g,ty,pos,af,none⟩::rest) a w:=by
 refine wpList_plain rfl λK hK=>?_;unfold Oper.wp;obtain⟨i,u,h1,h2,h3,G,h5,h6,h7,h8⟩:=K1 he;have M:(g.map λ(p:Nat×Operand)=>(p.1,a.eval p.2)).toList=pv:=by
  obtain⟨l⟩:=g;simp only at q;simp only[List.map_toArray];clear X o k
  induction l generalizing pv with
  |nil=>simp at q;subst q;rfl
  |cons x l U=>
   simp only[Adv,Aeb,Ac6,jE,Acf] at q;obtain⟨y,⟨v,hv,rfl⟩,ys,V,A⟩:=q;simp only[Option.pure_def,Ab8] at A;subst A;simp only[Abl,W.eval hv,U V]
 have C:0<len:=(by simpa [Nat.blt] using I:1≤len)
 have Z:len*sz≤16777216:=Adl J;have s:((Array.range (len*i.size)).map (u.cells[· %u.cells.size]!))=((List.replicate len z).flatten).toArray:=by
  have:=Mh z len (by omega);rw[h7] at this;rw[←this];simp only[madeCells,G,h6,Adp]
 have t:Instr.fill (λj=>some (j*i.size,i.size)) ((Array.range (len*i.size)).map (u.cells[· %u.cells.size]!)) pv=some cs.toArray:=by
  rw[s];have h0:=N3 (U2 sz len) pv _ _ X;have D:∀(pv:List (Nat×Value)) (c:Array Value),(∀p∈pv,p.1<len)→Instr.fill (λj=>some (j*i.size,i.size)) c pv=Instr.fill ((U2 sz len).toArray[·]?) c pv:=by
   intro pv
   induction pv with
   |nil=>intro c _;rfl
   |cons p pv U=>
    intro c o;obtain⟨j,v⟩:=p;have hj:j<len:=o (j,v) (by simp);have e1:(U2 sz len).toArray[j]? =some (j*i.size,i.size):=by simp [U2,hj,G]
    simp only[Instr.fill,e1];split
    ·rfl
    ·exact U _ λp q=>o p (by simp [q])
  rw[D pv _ o];exact h0
 have hb:=run_buildSlice (P:=P) w T e len (g.map λ(p:Nat×Operand)=>(p.1,a.eval p.2)) cs.toArray i u h1 h2 h3 (by rw[G];omega) (by rw[G];exact Nat.ne_of_gt (Nat.mul_pos C h8)) (by rw[M];exact t);have F:(execOp a.eval ⟨some d,.buildSlice T len g,ty,pos,af,none⟩).run P w= .ok (.value (.slice (some ⟨w.heap.size,0,none⟩) len len)) (w.alloc (.cells cs.toArray e)):=by
  simp only[execOp,Sem.run_bind,hb];rfl
 rw[F];obtain⟨k1,k2⟩:=hs.push e cs;exact hK _ _ (k _ _ _ _ (W.put hd _) (Y.alloc _) (by rw[Y.heap];exact k1) k2)
def St.bxos {α}{r:A4 α}{b e:Nat}{cs:List Value}{l:List α}{M:List HP}(g:St S L h) (i:Mu L (Bx b e cs) (OS r e (.slice (some ⟨b,0,none⟩) l.length l.length) l) M) (a:LS S h r cs l) (c:l.length≤maxLen):St S M h:=
 (g.upd i (Abd _) λF d _=>⟨F,.inr ⟨b,l.length,cs.toArray,rfl,d.1,d.2,Abd _,c,by simpa using a.len,by
  have:=a.len;simp only[←this,Abo];exact a⟩,λ_ j=> .inl j,λ_ _ _=>rfl⟩).1
end
abbrev SM:=List (Nat×Value)
def QF (P:Program) (ops:Array Oper) (C:World→Prop) (Q:Act→Prop) (l:List Oper) (n:FN) (m:SM):Prop:=∀a,Fr n a m→wpQuiet P ops C Q l a
def LF (P:Program) (ops:Array Oper) (Q:Exit→Act→World→Prop) (l:List Oper) (B:World) (h:AV) (n:FN) (m:SM):Prop:=∀a w,Fr n a m→Wd B h w→wpList P ops Q l a w
def WF (P:Program) (ex:List (Nat×AP)) (R:AP) (cs:List Code) (N:AP) (B:World) (h:AV) (n:FN) (m:SM):Prop:=∀a w,Fr n a m→Wd B h w→W P ex R cs N a w
section
variable {P:Program}{ex:List (Nat×AP)}{R N:AP}{cs:List Code}{B:World}{h:AV}{n:FN}{m m':SM}{S:Nat→Prop}{L:List HP}
def Rk (b:Tr m m') (k:WF P ex R cs N B h n m'):WF P ex R cs N B h n m:=λa w c d=>k a w (c.sub b) d
def C9 {x y:Code}(k:WF P ex R (x::y::cs) N B h n m):WF P ex R (.seq x y::cs) N B h n m:=λa w b c=>uN (k a w b c)
def GG (k:WF P ex R cs N B h n m):WF P ex R (.skip::cs) N B h n m:=λa w b c=>oG (k a w b c)
def Bu (k:∀a w,Fr n a m→Wd B h w→R a w):WF P ex R (.ret::cs) N B h n m:=λa w b c=>uO (k a w b c)
def BB {i:Nat}{K:AP}(b:pZ ex i=some K) (k:∀a w,Fr n a m→Wd B h w→K a w):WF P ex R (.exit i::cs) N B h n m:=λa w c d=>aH b (k a w c d)
def WF.nil (k:∀a w,Fr n a m→Wd B h w→N a w):WF P ex R [] N B h n m:=λa w b c=>k a w b c
def QV {X b}{x y:Code}(g:BR m X=some (.bool b)) (i:b=true→WF P ex R (x::cs) N B h n m) (j:b=false→WF P ex R (y::cs) N B h n m):WF P ex R (.cond X x y::cs) N B h n m:=
 λa w c d=>yR c g (λe=>i e a w c d) λe=>j e a w c d
def VQ {X}{x y:Code}(c:BR m X=some (.bool true)) (k:WF P ex R (x::cs) N B h n m):WF P ex R (.cond X x y::cs) N B h n m:=λa w b d=>uP b c (k a w b d)
def Tc {X}{x y:Code}(c:BR m X=some (.bool false)) (k:WF P ex R (y::cs) N B h n m):WF P ex R (.cond X x y::cs) N B h n m:=λa w b d=>uQ b c (k a w b d)
def AY {i:Nat}{c:Code}(k:WF P ((i,W P ex R cs N)::ex) R [c] (W P ex R cs N) B h n m):WF P ex R (.block i c::cs) N B h n m:=λa w b d=>iL (k a w b d)
def HI {c:Code}(I:AP) (b:WF P ex R [c] I B h n m) (d:∀a w,I a w→W P ex R cs N a w):WF P ex R (c::cs) N B h n m:=λa w g i=>uR I (b a w g i) d
def kV {c:Code}(I:Nat→AP) (T d:Nat) (h0:∀a w,Fr n a m→Wd B h w→I d a w) (g:∀i a w,I i a w→i≤T)
  (b:∀i a w,I i a w→W P ex R [c] (I (i+1)) a w):WF P ex R (.loop c::cs) N B h n m:=λa w j k=>oI I T d (h0 a w j k) g b
def JO {l:List Oper}{id:Nat}{b:Bool}(c:cI P l b) (k:QF P l.toArray (Wd B h) (λa=>∀w,Wd B h w→W P ex R cs N a w) l n m):WF P ex R (.region id l.toArray b::cs) N B h n m:=
 λa _ d g=>yO c g (k a d)
def BY {l:List Oper}{id:Nat}{b:Bool}(c:cI P l b) (d:St S L h) (k:QF P l.toArray (Cl B h) (λa=>∀w h',Wd B h' w→St S L h'→B9 S h S h'→W P ex R cs N a w) l n m):WF P ex R (.region id l.toArray b::cs) N B h n m:=
 λa _ g i=>yQ c i d (k a g)
def Bv {l:List Oper}{id:Nat}(k:LF P l.toArray (Qx ex R (W P ex R cs N)) l B h n m):WF P ex R (.region id l.toArray false::cs) N B h n m:=
 λa w b c=>yP (k a w b c)
def E7 {ops:Array Oper}{C}(b:Tr m m') (k:WF P ex R cs N B h n m'):QF P ops C (λa=>∀w,Wd B h w→W P ex R cs N a w) [] n m:=λa c w d=>k a w (c.sub b) d
def BJ {ops:Array Oper}{C}(b:Tr m m') (k:∀h',St S L h'→B9 S h S h'→WF P ex R cs N B h' n m'):QF P ops C (λa=>∀w h',Wd B h' w→St S L h'→B9 S h S h'→W P ex R cs N a w) [] n m:=
 λa c w h' d s e=>k h' s e a w (c.sub b) d
def LF.nil {ops:Array Oper}(b:Tr m m') (k:WF P ex R cs N B h n m'):LF P ops (Qx ex R (W P ex R cs N)) [] B h n m:=λa w c d=>mV (k a w (c.sub b) d)
def LU {ops:Array Oper}{Q:Exit→Act→World→Prop}{l:List Oper}(j:Nat) (k:QF P ops (Wd B h) (λa=>∀w,Wd B h w→wpList P ops Q (l.drop j) a w) (l.take j) n m):LF P ops Q l B h n m:=λa _ b c=>l_q j c (k a b)
def K5 {ops:Array Oper}{C}{Q:Exit→Act→World→Prop}{l:List Oper}(k:LF P ops Q l B h n m):QF P ops C (λa=>∀w,Wd B h w→wpList P ops Q l a w) [] n m:=λa b w c=>k a w b c
def BA {f fn c l S h post}(n:Nat) (b:P.funcs[f]? =some fn) (d:fn.body=some c) (g:fn.ntmps=n) (i:Nat.ble l.length n=true)
  (k:∀B,WF P [] (Rt P fn B S h post) [c] (Rt P fn B S h post) B h (n,[]) (XZ 0 l)):B3 P f l.toArray S h post:=
 B3.intro n b d g (Adl i) λB w a j b=>k B a w b j
end
section
variable {P:Program}{ops:Array Oper}{C:World→Prop}{Q:Act→Prop}{n:FN}{m m':SM}{rest:List Oper}
variable {d:Nat}{ty:TypeId}{pos:String}{af:Array Edge}{X Y:Operand}{t t1 t2:TypeId}{x y:Int}{kd:IntKind}{v p:Value}
def QF.nil (k:∀a,Fr n a m→Q a):QF P ops C Q [] n m:=λa b=>k a b
def zU {l:List Oper}(b:Tr m m') (k:QF P ops C Q l n m'):QF P ops C Q l n m:=λa c=>k a (c.sub b)
def Yy {o:Oper}{j e:Nat}{b:Bool}(d:o.guard=some (j,b)) (g:(ops[j]?).bind (·.dst)=some e) (i:lk m e=some (.bool b)) (k:QF P ops C Q ({ o with guard:=none}::rest) n m):QF P ops C Q (o::rest) n m:=
 λa c=>zB c d g i (k a c)
def Aao {o:Oper}{j e:Nat}{b:Bool}(a:o.guard=some (j,!b)) (c:(ops[j]?).bind (·.dst)=some e) (g:lk m e=some (.bool b)) (i:o.dst=some d) (hd:Nat.blt d n.1=true) (k:QF P ops C Q rest n ((d,undef)::m)):QF P ops C Q (o::rest) n m:=
 λ_ l=>zC l a c g i hd k
def uA (j:Nat) (m':SM) {l:List Oper}(c:QF P ops C (λa=>Fr n a m') (l.take j) n m) (d:QF P ops C Q (l.drop j) n m'):QF P ops C Q l n m:=
 λa g=>UG j (λa=>Fr n a m') (c a g) λi b=>d i b
def lM (b:Tr m m'):QF P ops C (λa=>Fr n a m') [] n m:=λ_ c=>c.sub b
def LE (a:BR m X=some v) (hd:Nat.blt d n.1=true) (k:QF P ops C Q rest n ((d,v)::m)):QF P ops C Q (⟨some d,.move X,ty,pos,af,none⟩::rest) n m:=λ_ b=>yZ b a hd k
def Mw (a:BR m X=some v) (hd:Nat.blt d n.1=true) (k:QF P ops C Q rest n ((d,v)::m)):QF P ops C Q (⟨some d,.assign X,ty,pos,af,none⟩::rest) n m:=λ_ b=>zE b a hd k
def Q8 {c X Y:Operand}{b:Bool}(a:BR m c=some (.bool b)) (g:BR m (if b then X else Y)=some v) (hd:Nat.blt d n.1=true) (k:QF P ops C Q rest n ((d,v)::m)):QF P ops C Q (⟨some d,.pick c X Y,ty,pos,af,none⟩::rest) n m:=λ_ i=>pK i a g hd k
def zX (a:BR m X=some (.int .i64 x)) (b:BR m Y=some (.int .i64 y)) (hd:Nat.blt d n.1=true) (c:AB (x+y)) (k:QF P ops C Q rest n ((d,.int .i64 (x+y))::m)):QF P ops C Q (⟨some d,.binOp .add t1 X Y t2,ty,pos,af,none⟩::rest) n m:=λ_ g=>wH g a b hd c k
def zV (a:BR m X=some (.int .i64 x)) (b:BR m Y=some (.int .i64 y)) (hd:Nat.blt d n.1=true) (c:AB (x*y)) (k:QF P ops C Q rest n ((d,.int .i64 (x*y))::m)):QF P ops C Q (⟨some d,.binOp .mul t1 X Y t2,ty,pos,af,none⟩::rest) n m:=λ_ g=>vR g a b hd c k
def Y5 (a:BR m X=some (.int .i64 x)) (b:BR m Y=some (.int .i64 y)) (hd:Nat.blt d n.1=true) (k:QF P ops C Q rest n ((d,.int .i64 (BC (x+y)))::m)):QF P ops C Q (⟨some d,.binOp .add t1 X Y t2,ty,pos,af,none⟩::rest) n m:=λ_ c=>pO c a b hd k
def Yv (a:BR m X=some (.int .i64 x)) (b:BR m Y=some (.int .i64 y)) (hd:Nat.blt d n.1=true) (k:QF P ops C Q rest n ((d,.int .i64 (BC (x-y)))::m)):QF P ops C Q (⟨some d,.binOp .sub t1 X Y t2,ty,pos,af,none⟩::rest) n m:=λ_ c=>pJ c a b hd k
def gO (a:BR m X=some (.int kd x)) (b:BR m Y=some (.int kd y)) (hd:Nat.blt d n.1=true) (k:QF P ops C Q rest n ((d,.bool (decide (x<y)))::m)):QF P ops C Q (⟨some d,.binOp .lss t1 X Y t2,ty,pos,af,none⟩::rest) n m:=λ_ c=>vU c a b hd k
def gP (a:BR m X=some (.int kd x)) (b:BR m Y=some (.int kd y)) (hd:Nat.blt d n.1=true) (k:QF P ops C Q rest n ((d,.bool (decide (x≤y)))::m)):QF P ops C Q (⟨some d,.binOp .leq t1 X Y t2,ty,pos,af,none⟩::rest) n m:=λ_ c=>vV c a b hd k
def gT (a:BR m X=some (.int kd x)) (b:BR m Y=some (.int kd y)) (hd:Nat.blt d n.1=true) (k:QF P ops C Q rest n ((d,.bool (decide (y<x)))::m)):QF P ops C Q (⟨some d,.binOp .gtr t1 X Y t2,ty,pos,af,none⟩::rest) n m:=λ_ c=>wC c a b hd k
def tX (a:BR m X=some (.int kd x)) (b:BR m Y=some (.int kd y)) (hd:Nat.blt d n.1=true) (k:QF P ops C Q rest n ((d,.bool (decide (y≤x)))::m)):QF P ops C Q (⟨some d,.binOp .geq t1 X Y t2,ty,pos,af,none⟩::rest) n m:=λ_ c=>wD c a b hd k
def gW (a:BR m X=some (.int kd x)) (b:BR m Y=some (.int kd y)) (hd:Nat.blt d n.1=true) (k:QF P ops C Q rest n ((d,.bool (decide (x=y)))::m)):QF P ops C Q (⟨some d,.binOp .eql t1 X Y t2,ty,pos,af,none⟩::rest) n m:=λ_ c=>wF c a b hd k
def gN (a:BR m X=some (.int kd x)) (b:BR m Y=some (.int kd y)) (hd:Nat.blt d n.1=true) (k:QF P ops C Q rest n ((d,.bool (decide (x≠y)))::m)):QF P ops C Q (⟨some d,.binOp .neq t1 X Y t2,ty,pos,af,none⟩::rest) n m:=λ_ c=>vQ c a b hd k
def gJ {b}(a:BR m X=some (.bool b)) (hd:Nat.blt d n.1=true) (k:QF P ops C Q rest n ((d,.bool (!b))::m)):QF P ops C Q (⟨some d,.unOp .not t1 X,ty,pos,af,none⟩::rest) n m:=λ_ c=>vM c a hd k
def Yw (a:BR m X=some (.int .i64 x)) (hd:Nat.blt d n.1=true) (k:QF P ops C Q rest n ((d,.int .i64 (BC (0-x)))::m)):QF P ops C Q (⟨some d,.unOp .neg t1 X,ty,pos,af,none⟩::rest) n m:=λ_ b=>pL b a hd k
def Td {aty}(a:BR m X=some (.int kd x)) (b:BR m Y=some (.int kd y)) (hd:Nat.blt d n.1=true) (k:QF P ops C Q rest n ((d,.int kd (Max.max x y))::m)):QF P ops C Q (⟨some d,.call ⟨.builtin .max,#[X,Y],#[t1,t2]⟩,aty,pos,af,none⟩::rest) n m:=λ_ c=>vT c a b hd k
def Xc {aty}(a:BR m X=some (.int kd x)) (b:BR m Y=some (.int kd y)) (hd:Nat.blt d n.1=true) (k:QF P ops C Q rest n ((d,.int kd (Min.min x y))::m)):QF P ops C Q (⟨some d,.call ⟨.builtin .min,#[X,Y],#[t1,t2]⟩,aty,pos,af,none⟩::rest) n m:=λ_ c=>vS c a b hd k
def FY {T:TypeId}{a:Array (Nat×Operand)}{pl z pv cs}(b:Vj P T=some (pl,z)) (c:a.toList.mapM (jE m)=some pv) (g:NE pl z pv=some cs) (hd:Nat.blt d n.1=true) (k:QF P ops C Q rest n ((d,.agg cs.toArray)::m)):QF P ops C Q (⟨some d,.build T a,ty,pos,af,none⟩::rest) n m:=λ_ i=>wG i b c g hd k
def gK {T:TypeId}{ks xs ys}(a:BR m X=some (.agg xs)) (b:BR m Y=some (.agg ys)) (c:jY P T=some ks) (g:xs.toList.map Mi=ks) (i:ys.toList.map Mi=ks) (j:Ql xs.toList ys.toList=true) (hd:Nat.blt d n.1=true) (k:QF P ops C Q rest n ((d,.bool (!Wq xs.toList ys.toList))::m)):QF P ops C Q (⟨some d,.binOp .neq T X Y t2,ty,pos,af,none⟩::rest) n m:=λ_ l=>vO l a b c g i j hd k
def Im {b o j off}(a:BR m X=some (.pointer (some ⟨b,o,none⟩))) (c:Zz P t j off=true) (hd:Nat.blt d n.1=true) (k:QF P ops C Q rest n ((d,.pointer (some ⟨b,o+off,none⟩))::m)):QF P ops C Q (⟨some d,.fieldAddr t X j,ty,pos,af,none⟩::rest) n m:=λ_ g=>wE g a c hd k
def Pm {ad len cap aty e sz}(a:BR m X=some (.slice ad len cap)) (b:Na P t e sz=true) (hd:Nat.blt d n.1=true) (k:QF P ops C Q rest n ((d,.int .i64 len)::m)):QF P ops C Q (⟨some d,.call ⟨.builtin .len,#[X],#[t]⟩,aty,pos,af,none⟩::rest) n m:=λ_ c=>pM c a b hd k
section
variable {A S:Nat→Prop}{L:List HP}{h:AV}
def P4 {α}{r:A4 α}{x}(g:CK C h) (i:∀b,A b→b<h.size) (j:BR m X=some p) (k0:My A S h r p x) (l:Jw P t r.sz r.ag=true) (o:r.ag=false→r.sz=1) (hd:Nat.blt d n.1=true)
  (k:∀v,Rd S h r v x→QF P ops C Q rest n ((d,v)::m)):QF P ops C Q (⟨some d,.load t X,ty,pos,af,none⟩::rest) n m:=λ_ c=>ZU g i c j k0 l o hd λv a c q=>k v q a c
def Gf {x}(g:CK C h) (i:∀b,A b→b<h.size) (j:BR m X=some p) (k0:My A S h AC p x) (l:Jw P t 1 false=true) (hd:Nat.blt d n.1=true)
  (k:AB x→QF P ops C Q rest n ((d,.int .i64 x)::m)):QF P ops C Q (⟨some d,.load t X,ty,pos,af,none⟩::rest) n m:=λ_ c=>wA g i c j k0 l hd λa c o=>k o a c
def gR {x}(a:CK C h) (c:∀b,A b→b<h.size) (g:BR m X=some p) (k0:My A S h A4.bool p x) (i:Jw P t 1 false=true) (hd:Nat.blt d n.1=true)
  (k:QF P ops C Q rest n ((d,.bool x)::m)):QF P ops C Q (⟨some d,.load t X,ty,pos,af,none⟩::rest) n m:=λ_ j=>wB a c j g k0 i hd k
def Te {x}(g:CK C h) (i:∀b,A b→b<h.size) (j:BR m X=some p) (k0:My A S h A4.str p x) (l:Jw P t 1 false=true) (hd:Nat.blt d n.1=true)
  (k:x.size≤maxLen→QF P ops C Q rest n ((d,.string x)::m)):QF P ops C Q (⟨some d,.load t X,ty,pos,af,none⟩::rest) n m:=λ_ c=>vX g i c j k0 l hd λa c o=>k o a c
def JG {α}{r:A4 α}{x}(g:CK C h) (i:∀b,A b→b<h.size) (j:BR m X=some p) (k0:My A S h r.sl p x) (l:Jw P t 1 false=true) (hd:Nat.blt d n.1=true)
  (k:∀v,Sl S h r v x→QF P ops C Q rest n ((d,v)::m)):QF P ops C Q (⟨some d,.load t X,ty,pos,af,none⟩::rest) n m:=λ_ c=>vZ g i c j k0 l hd λv a c o=>k v o a c
def MF {α β}{r:A4 α}{r':A4 β}{f:α→β}{j off x}(c:BR m X=some p) (k0:My A S h r p x) (g:F9 r off r' f) (i:Zz P t j off=true) (hd:Nat.blt d n.1=true)
  (k:∀q,My A S h r' q (f x)→QF P ops C Q rest n ((d,q)::m)):QF P ops C Q (⟨some d,.fieldAddr t X j,ty,pos,af,none⟩::rest) n m:=λ_ b=>zD b c k0 g i hd λq a b l=>k q l a b
def xS {α}{r:A4 α}{l:List α}{e i x}(c:BR m X=some v) (g:BR m Y=some (.int .i64 i)) (k0:Sl S h r v l) (j:Na P t e r.sz=true) (h0:0≤i) (o:l[i.toNat]? =some x) (hd:Nat.blt d n.1=true)
  (k:∀q,Pt S h r q x→QF P ops C Q rest n ((d,q)::m)):QF P ops C Q (⟨some d,.indexAddr t X Y,ty,pos,af,none⟩::rest) n m:=λ_ b=>zA b c g k0 j h0 o hd λq a b p=>k q p a b
def tU {α}{r:A4 α}{l:List α}{T e i x}(p:St S L h) (s:OS r T v l∈L) (u:BR m X=some v) (y:BR m Y=some (.int .i64 i)) (z:Na P t e r.sz=true) (h0:0≤i) (o:l[i.toNat]? =some x) (hd:Nat.blt d n.1=true)
  (k:∀q,My (λb=>b<h.size) S h r q x→EP v (i.toNat*r.sz) q→QF P ops C Q rest n ((d,q)::m)):QF P ops C Q (⟨some d,.indexAddr t X Y,ty,pos,af,none⟩::rest) n m:=by
 obtain⟨g,cap,rfl,A⟩:=p.osAt s o;have B:i.toNat<l.length:=(Aba.1 o).1;have c:(⟨g,0,none⟩:Addr).add (i.toNat*r.sz)=⟨g,i.toNat*r.sz,none⟩:=by unfold Addr.add;split<;>simp_all
 intro a j;refine Du j hd (λw _=>by simp [execOp,j.eval u,j.eval y,M9 (P:=P) (w:=w) (cap:=cap) (a:=⟨g,0,none⟩) z h0 B,c]) (k _ A ⟨g,_,_,rfl,rfl⟩)
def NR {α}{r:A4 α}{l:List α}{aty e}(c:BR m X=some v) (k0:Sl S h r v l) (g:Na P t e r.sz=true) (hd:Nat.blt d n.1=true)
  (k:l.length≤maxLen→QF P ops C Q rest n ((d,.int .i64 l.length)::m)):QF P ops C Q (⟨some d,.call ⟨.builtin .len,#[X],#[t]⟩,aty,pos,af,none⟩::rest) n m:=λ_ b=>vW b c k0 g hd λa b i=>k i a b
def lK {α}{r:A4 α}{l:List α}{T aty e sz}(b:St S L h) (c:OS r T v l∈L) (g:BR m X=some v) (i:Na P t e sz=true) (hd:Nat.blt d n.1=true)
  (k:l.length≤maxLen→QF P ops C Q rest n ((d,.int .i64 l.length)::m)):QF P ops C Q (⟨some d,.call ⟨.builtin .len,#[X],#[t]⟩,aty,pos,af,none⟩::rest) n m:=by
 obtain⟨j,cap,rfl,a⟩:=b.oslen c;exact Pm g i hd (k a)
def OE {T b o sz:Nat}{ag:Bool}{cs vs:List Value}(a:CK C h) (c:St S L h) (g:BR m X=some (.pointer (some ⟨b,o,none⟩))) (i:Bx b T cs∈L) (j:(cs.drop o).take sz=vs) (l:Nat.beq vs.length sz=true) (p:Jw P t sz ag=true) (q:(ag||Nat.beq sz 1)=true) (hd:Nat.blt d n.1=true)
  (k:QF P ops C Q rest n ((d,if ag then .agg vs.toArray else vs.headD undef)::m)):QF P ops C Q (⟨some d,.load t X,ty,pos,af,none⟩::rest) n m:=λ_ s=>vY a c s g i j l p q hd k
end
def lN {f:Nat}{xs:Array Operand}{c:Array TypeId}{a vs:List Value}{first cap:Array Value}{h B}
  (l:BR m X=some (.func (.func f) first cap)) (g:xs.toList.mapM (BR m)=some a) (i:first.toList++a++cap.toList=vs) (j:BK P f=true) (hd:Nat.blt d n.1=true)
  (o:∀h',DX h h'→B3 P f vs.toArray (λb=>b<h'.size) h' (λu _ _=>u=v))
  (k:QF P ops (Cl B h) Q rest n ((d,v)::m)):QF P ops (Cl B h) Q (⟨some d,.call ⟨.value X,xs,c⟩,ty,pos,af,none⟩::rest) n m:=λ_ p=>pN p l g i j hd o k
end
section
variable {P:Program}{ops:Array Oper}{Q:Exit→Act→World→Prop}{n:FN}{m:SM}{rest:List Oper}
variable {d:Nat}{ty:TypeId}{pos:String}{af:Array Edge}{X Y:Operand}{B:World}{h:AV}{S:Nat→Prop}{L L2:List HP}{v:Value}
def OG {T:TypeId}{cs:List Value}(j:BR m X=some v) (l:v.cells=cs.toArray) (hd:Nat.blt d n.1=true) (c:St S L h)
  (k:∀b h',St S (Bx b T cs::L) h'→B9 S h S h'→LF P ops Q rest B h' n ((d,.pointer (some ⟨b,0,none⟩))::m)):LF P ops Q (⟨some d,.box T X,ty,pos,af,none⟩::rest) B h n m:=
 λ_ _ g i=>mW g j l hd i c λb a w h' g i c e=>k b h' c e a w g i
def By {T:TypeId}{α}{r:A4 α}{x:α}(i:BR m X=some v) (j:Rd S h r v x) (l:r.ag=false→r.sz=1) (hd:Nat.blt d n.1=true) (b:St S L h)
  (k:∀p S' h',St S' L h'→B9 S h S' h'→Pt S' h' r p x→LF P ops Q rest B h' n ((d,p)::m)):LF P ops Q (⟨some d,.box T X,ty,pos,af,none⟩::rest) B h n m:=
 λ_ _ c g=>qC c i j l hd g b λp a w S' h' c g b e kp=>k p S' h' b e kp a w c g
def CF {T:TypeId}{cs:List Value}(j:EB P T=some cs) (hd:Nat.blt d n.1=true) (c:St S L h)
  (k:∀b h',St S (Bx b T cs::L) h'→B9 S h S h'→LF P ops Q rest B h' n ((d,.pointer (some ⟨b,0,none⟩))::m)):LF P ops Q (⟨some d,.alloc T,ty,pos,af,none⟩::rest) B h n m:=
 λ_ _ g i=>zJ g j hd i c λb a w h' g i c e=>k b h' c e a w g i
def Th {T l:TypeId}{b o:Nat}{cs vs cs':List Value}{sz:Nat}{ag:Bool}(p:BR m X=some (.pointer (some ⟨b,o,none⟩))) (q:BR m Y=some v) (s:v.cells=vs.toArray) (t:∀u∈vs,u.oneCell'=true)
  (x:Jw P T sz ag=true) (d:vs.length=sz) (g:St S L h) (r:Mu L (Bx b l cs) (Bx b l cs') L2) (c:Nat.ble (o+sz) cs.length=true) (y:Ii cs o vs=cs')
  (k:∀h',St S L2 h'→B9 S h S h'→LF P ops Q rest B h' n m):LF P ops Q (⟨none,.store T X Y,ty,pos,af,none⟩::rest) B h n m:=
 λ_ _ i j=>zG i p q s t x d c y j g r λa w h' i j g e=>k h' g e a w i j
def xV {α}{r:A4 α}{T e sz b:Nat}{z:List Value}{zx:α}{len cap:Nat}{q s:IntKind}{U V:Operand}(t:OY P T=some (e,sz,b,z)) (c:r.sz=sz) (u:r.rd S h z zx)
  (x:BR m U=some (.int q (len:Nat))) (y:BR m V=some (.int s (cap:Nat))) (g:len≤cap) (i:b*cap≤281474976710656) (j:cap≤maxLen) (hd:Nat.blt d n.1=true) (l:St S L h)
  (k:∀v h',St S (OS r e v (List.replicate len zx)::L) h'→B9 S h S h'→LF P ops Q rest B h' n ((d,v)::m)):LF P ops Q (⟨some d,.makeSlice T U V,ty,pos,af,none⟩::rest) B h n m:=
 λ_ _ o p=>zH o t c u x y g i j hd p l λv a w h' o p l e=>k v h' l e a w o p
def Y9 {α}{r:A4 α}{T e sz i:Nat}{z:List Value}{l xs:List α}{x y b sc:Nat}{c:List Value}{LL:Value→List HP}(A:BR m X=some v) (C:BR m Y=some (.slice (some ⟨x,0,none⟩) b sc)) (D:OY P T=some (e,sz,i,z)) (j:r.sz=sz)
  (F:Bx x y c∈L) (G:LS S h r c xs) (o:b=xs.length) (p:l.length+xs.length≤maxLen) (q:Js (l.length+xs.length) i) (hd:Nat.blt d n.1=true) (s:St S L h) (H:∀g,Mu L (OS r e v l) (OS r e g (l++xs)) (LL g))
  (k:∀g h',St S (LL g) h'→B9 S h S h'→LF P ops Q rest B h' n ((d,g)::m)):LF P ops Q (⟨some d,.call ⟨.builtin .append,#[X,Y],#[T,T]⟩,ty,pos,af,none⟩::rest) B h n m:=
 λ_ _ t u=>qE t A C D j F G o p q hd u s H λg a w h' t u s e=>k g h' s e a w t u
def nT {T e sz g len:Nat}{z cs:List Value}{c:Array (Nat×Operand)}{pv:List (Nat×Value)}(t:OY P T=some (e,sz,g,z)) (u:c.toList.mapM (jE m)=some pv)
  (v:NE (U2 sz len) (List.replicate len z).flatten pv=some cs) (i:Nat.blt 0 len=true) (j:Nat.ble (len*sz) 16777216=true) (l:∀p∈pv,p.1<len) (hd:Nat.blt d n.1=true) (o:St S L h)
  (k:∀b h',St S (Bx b e cs::L) h'→B9 S h S h'→LF P ops Q rest B h' n ((d,.slice (some ⟨b,0,none⟩) len len)::m)):LF P ops Q (⟨some d,.buildSlice T len c,ty,pos,af,none⟩::rest) B h n m:=
 λ_ _ q s=>zI q t u v i j hd s o l λb a w h' q s o e=>k b h' o e a w q s
def EQ {f:Nat}{xs:Array Operand}{g:Array TypeId}{b vs:List Value}{first cap:Array Value}{c:Value→(Nat→Prop)→AV→Prop}
  (s:BR m X=some (.func (.func f) first cap)) (i:xs.toList.mapM (BR m)=some b) (j:first.toList++b++cap.toList=vs) (l:BK P f=true) (hd:Nat.blt d n.1=true) (t:B3 P f vs.toArray S h c)
  (k:∀v S' h',B9 S h S' h'→c v S' h'→LF P ops Q rest B h' n ((d,v)::m)):LF P ops Q (⟨some d,.call ⟨.value X,xs,g⟩,ty,pos,af,none⟩::rest) B h n m:=
 λ_ _ o q=>dO o s i j l hd q t λv a w S' h' o q e p=>k v S' h' e p a w o q
end
instance:Inhabited ByteArray:=⟨.empty⟩
def Sl.one {α S h}{r:A4 α}{v l}(k:Sl S h r v l):v.oneCell'=true:=by
 rcases k with ⟨rfl,_⟩|⟨a,c,rfl,_⟩<;>rfl
section
variable {P:Program}{ex ex':List (Nat×AP)}{R N N':AP}{cs cs':List Code}{B:World}{h:AV}{n:FN}{m m':SM}{S:Nat→Prop}{L:List HP}
def KN {i:Nat}(b:pZ ex i=some (W P ex' R cs' N')) (k:WF P ex' R cs' N' B h n m):WF P ex R (.exit i::cs) N B h n m:=λa w c d=>aH b (k a w c d)
def BE (k:WF P ex' R cs' N' B h n m):WF P ex R [] (W P ex' R cs' N') B h n m:=λa w b c=>k a w b c
def AK {a w}(k:WF P ex R cs N B h n m) (b:Fr n a m) (c:Wd B h w):W P ex R cs N a w:=k a w b c
end
section
variable {P:Program}{ops:Array Oper}{C:World→Prop}{Q:Act→Prop}{n:FN}{m m':SM}{rest:List Oper}
variable {d:Nat}{ty:TypeId}{pos:String}{af:Array Edge}{X Y:Operand}{t t1 t2:TypeId}{x y:Int}{kd:IntKind}{v p:Value}{A S:Nat→Prop}{L:List HP}{h:AV}
def AZ (j d:Nat) (v:Value) {l:List Oper}(b:QF P ops C (λa=>Fr n a ((d,v)::m)) (l.take j) n m) (c:QF P ops C Q (l.drop j) n ((d,v)::m)):QF P ops C Q l n m:=uA j _ b c
end
def RV (P:Program) (w:World) (a:Act):ResultVar→Value→Prop
 | .tmp t,v=>a.tmps.getD t undef=v
 | .cell t T,v=>∀b:World,b.heap=w.heap→(do loadVar T (←asAddr (a.tmps.getD t undef)):Sem Value).run P b= .ok v b
def Z1 (P:Program) (w:World) (a:Act):List ResultVar→List Value→Prop
 |[],[]=>True
 |r::b,v::vs=>RV P w a r v∧Z1 P w a b vs
 |_,_=>False
def uZ:List Value→Value
 |[v]=>v
 |vs=> .tuple vs.toArray
def V9 {P:Program}{w:World}{a:Act}{fn:Func}{b:List ResultVar}{vs:List Value}(l:fn.results.toList=b) (k:Z1 P w a b vs):(results fn a.tmps).run P w= .ok (uZ vs) w:=by
 have g:∀(b:List ResultVar) (vs:List Value),Z1 P w a b vs→(b.mapM λr:ResultVar=>(match r with
   | .tmp t=>pure (a.tmps.getD t undef)
   | .cell c t=>do loadVar t (←asAddr (a.tmps.getD c undef)):Sem Value)).run P w= .ok vs w:=by
  intro b
  induction b with
  |nil=>intro vs k;cases vs with
   |nil=>simp
   |cons _ _=>exact k.elim
  |cons r b m=>intro vs k;cases vs with
   |nil=>exact k.elim
   |cons v vs=>
    obtain⟨d,n⟩:=k;have i:=m vs n;cases r with
    |tmp t=>
     have d:a.tmps.getD t undef=v:=d;simp only[Adv,Sem.run_bind,Sem.run_pure,Result.andThen_ok,i,d]
    |cell c t=>
     have d:(do loadVar t (←asAddr (a.tmps.getD c undef)):Sem Value).run P w= .ok v w:=d w rfl;simp only[Adv];rw[Sem.run_bind,d];simp only[Result.andThen_ok,Sem.run_bind,i,Sem.run_pure]
 have j:=g b vs k;unfold results;simp only[Array.mapM_eq_mapM_toList,l,Sem.run_bind,Sem.run_map];refine(Aaz (λx=>(Result.andThen x λa w'=>Result.ok a.toArray w').andThen λa w'=>Sem.run P (pure (if h:a.size=1 then a[0] else Value.tuple a)) w') j).trans ?_;clear j g k
 match vs with
 |[]=>rfl
 |[v]=>rfl
 |_::_::_=>rfl
section
variable {P:Program}{fn:Func}{B:World}{S S':Nat→Prop}{h h':AV}{post:Value→(Nat→Prop)→AV→Prop}{n:FN}{a:Act}{m:SM}{w:World}{L:List HP}
def IJ {t v}(b:Fr n a m) (c:lk m t=some v):RV P w a (.tmp t) v:=by
 have:=b.eval (X:= .tmp t) c;simpa [RV,Act.eval] using this
def UC {t T b T' sz}{cs:List Value}(d:Fr n a m) (g:Wd B h w) (i:St S L h) (k:lk m t=some (.pointer (some ⟨b,0,none⟩))) (l:Bx b T' cs∈L) (o:Jw P T sz true=true) (q:cs.length=sz):RV P w a (.cell t T) (.agg cs.toArray):=by
 obtain⟨F,s,_⟩:=i.get l;have c:=d.eval (X:= .tmp t) k;simp only[Act.eval] at c;intro u v;have:=Ny (P:=P) (w:=u) (S:=λ_=>True) (p:= .pointer (some ⟨b,0,none⟩)) (cs:=cs) ⟨⟨b,0,none⟩,rfl,rfl,trivial,λj _=>by rw[v,g.heap,Abz,Bx.cell s]⟩ q o (λe=>by cases e);simp only[Instr.loadAt,Instr.sureAddr,Sem.run_bind,Sem.run_pure,Result.andThen_ok,if_true] at this;simp only[c,asAddr,Sem.run_bind,Sem.run_pure,Result.andThen_ok,this]
def Uh {d:World}(g:d.heap=w.heap):∀{b:List ResultVar}{vs:List Value},Z1 P w a b vs→Z1 P d a b vs
 |[],[],_=>trivial
 |[],_::_,h=>h.elim
 |_::_,[],h=>h.elim
 |r::b,v::vs,⟨h,t⟩=>⟨by
   cases r with
   |tmp t=>exact h
   |cell c t=>exact λi j=>h i (j.trans g),Uh g t⟩
def I9:Z1 P w a [] []:=trivial
def G7 {r v rs vs}(k:RV P w a r v) (b:Z1 P w a rs vs):Z1 P w a (r::rs) (v::vs):=⟨k,b⟩
def JA {k:Nat}{d:List ResultVar}{vs:List Value}{v:Value}(i:Fr (k,[]) a m) (j:fn.results.toList=d) (b:Wd B h' w) (l:Z1 P w a d vs) (n:uZ vs=v) (e:B9 S h S' h') (kp:post v S' h'):Rt P fn B S h post a w:=by
 refine⟨[],i.dfr,List.nodup_nil,λD o=>(by cases o),λp q s t u x=>?_⟩;have g:=UU u x;have c:Wd B h' p:=⟨g.trans b.heap,q.trans b.os,s.trans b.tape,t.trans b.out⟩
 exact⟨v,by rw[←n];exact V9 j (Uh g l),S',h',c,e,kp⟩
end
def sb {m:SM}(k:Nat) {v:Value}{r:SM}(h:lk m k=some v) (s:Tr m r):Tr m ((k,v)::r):=⟨h,s⟩
def Nx {m:SM}:Tr m []:=trivial
section
variable {P:Program}{ex:List (Nat×AP)}{R N:AP}{cs:List Code}{B:World}{h:AV}{n:FN}{m m':SM}{S:Nat→Prop}{L:List HP}
end
def B3.pure {P f args S h}{post:Value→(Nat→Prop)→AV→Prop}(k:B3 P f args S h post):∃v S' h',post v S' h':=by
 let w:World:={ (default:World) with heap:=h}
 obtain⟨e,w',fr,⟨v,S',h',_,_,_,a⟩,_⟩:=k w w ⟨rfl,rfl,rfl,rfl⟩ [];exact⟨v,S',h',a⟩
def If {P:Program}{ops:Array Oper}{Q:Act→Prop}{n:FN}{m:SM}{rest:List Oper}{d:Nat}{ty:TypeId}{pos:String}{af:Array Edge}{X:Operand}{v:Value}{Ψ:Prop}{f:Nat}{xs:Array Operand}{c:Array TypeId}{a vs:List Value}{first cap:Array Value}{h B}
  (q:BR m X=some (.func (.func f) first cap)) (g:xs.toList.mapM (BR m)=some a) (i:first.toList++a++cap.toList=vs) (j:BK P f=true) (hd:Nat.blt d n.1=true)
  (l:∀h',DX h h'→B3 P f vs.toArray (λb=>b<h'.size) h' (λu _ _=>u=v∧Ψ))
  (k:Ψ→QF P ops (Cl B h) Q rest n ((d,v)::m)):QF P ops (Cl B h) Q (⟨some d,.call ⟨.value X,xs,c⟩,ty,pos,af,none⟩::rest) n m:=by
 obtain⟨_,_,_,_,s⟩:=(l h (DX.refl h)).pure;exact lN q g i j hd (λh' o=>(l h' o).mono λ_ _ _ _ p=>p.1) (k s)
section
variable {P:Program}{ops:Array Oper}{C:World→Prop}{Q:Act→Prop}{n:FN}{m m':SM}{rest:List Oper}{d:Nat}
end
def mh {α}{a:α}{l:List α}:a∈a::l:=List.Mem.head _
def mt {α}{a b:α}{l:List α}(h:a∈l):a∈b::l:=List.Mem.tail _ h
def mB {P:Program}{ops:Array Oper}{Q:Exit→Act→World→Prop}{n:FN}{m:SM}{rest:List Oper}{d:Nat}{ty:TypeId}{pos:String}{af:Array Edge}{X Y:Operand}{B:World}{h:AV}{S:Nat→Prop}{L:List HP}{v:Value}
  {α} {r:A4 α} {T e sz a:Nat} {z:List Value} {l xs:List α} {q s b sc:Nat} {c:List Value} {LL:Value→List HP} (t:BR m X=some v) (u:BR m Y=some (.slice (some ⟨q,0,none⟩) b sc)) (w:OY P T=some (e,sz,a,z)) (o:r.sz=sz)
  (x:Bx q s c∈L) (y:LS S h r c xs) (p:b=xs.length) (g:Nat.blt 0 a=true) (i:Js (l.length+xs.length) a) (hd:Nat.blt d n.1=true) (A:St S L h) (C:∀j,Mu L (OS r e v l) (OS r e j (l++xs)) (LL j))
  (k:∀j h',St S (LL j) h'→B9 S h S h'→LF P ops Q rest B h' n ((d,j)::m)):LF P ops Q (⟨some d,.call ⟨.builtin .append,#[X,Y],#[T,T]⟩,ty,pos,af,none⟩::rest) B h n m:=by
 have D:1≤a:=by simpa [Nat.blt] using g
 have F:l.length+xs.length≤(l.length+xs.length)*a:=Nat.le_mul_of_pos_right _ D;have G:=i.le;exact Y9 t u w o x y p (by unfold maxLen;omega) i hd A C k
section
variable {P:Program}{ops:Array Oper}{C:World→Prop}{Q:Act→Prop}{n:FN}{m m':SM}{rest:List Oper}{d:Nat}{ty:TypeId}{pos:String}{af:Array Edge}{X Y Z:Operand}{t1 t2 t3 aty:TypeId}{x y z:Int}{kd:IntKind}
def lI (c:BR m X=some (.int kd x)) (g:BR m Y=some (.int kd y)) (i:BR m Z=some (.int kd z)) (hd:Nat.blt d n.1=true) (k:QF P ops C Q rest n ((d,.int kd (Min.min (Min.min x y) z))::m)):QF P ops C Q (⟨some d,.call ⟨.builtin .min,#[X,Y,Z],#[t1,t2,t3]⟩,aty,pos,af,none⟩::rest) n m:=
 λa b=>Du b hd (λw _=>by
  have j:(if y<x then y else x)=Min.min x y:=by rw[Int.min_def];split<;>split<;>omega
  have l:(if z<Min.min x y then z else Min.min x y)=Min.min (Min.min x y) z:=by rw[Int.min_def (Min.min x y)];split<;>split<;>omega
  simp [execOp,resolve,invoke,builtin,Builtin.min_,Builtin.min2,b.eval c,b.eval g,b.eval i,j,l]) k
def RA {X Y:Operand}{t1 t2:TypeId}{a b:ByteArray}(g:BR m X=some (.string a)) (i:BR m Y=some (.string b)) (hd:Nat.blt d n.1=true) (k:QF P ops C Q rest n ((d,.bool (a==b))::m)):QF P ops C Q (⟨some d,.binOp .eql t1 X Y t2,ty,pos,af,none⟩::rest) n m:=
 λ_ c=>Du c hd (λw _=>by
  have j:(eqGuard .eql t1 X Y (.string a) (.string b)).run P w= .ok () w:=by unfold eqGuard;simp
  simp [execOp,c.eval g,c.eval i,j,binOp,Op.stringOp,beq_toListBytes]) k
def Wl {X Y:Operand}{t1 t2:TypeId}{a b:ByteArray}(g:BR m X=some (.string a)) (i:BR m Y=some (.string b)) (hd:Nat.blt d n.1=true) (k:QF P ops C Q rest n ((d,.bool (!(a==b)))::m)):QF P ops C Q (⟨some d,.binOp .neq t1 X Y t2,ty,pos,af,none⟩::rest) n m:=
 λ_ c=>Du c hd (λw _=>by
  have j:(eqGuard .neq t1 X Y (.string a) (.string b)).run P w= .ok () w:=by unfold eqGuard;simp
  simp [execOp,c.eval g,c.eval i,j,binOp,Op.stringOp,beq_toListBytes]) k
def MU {X:Operand}{t1:TypeId}{s:ByteArray}(b:BR m X=some (.string s)) (c:P.underlying t1=some .string) (hd:Nat.blt d n.1=true) (k:QF P ops C Q rest n ((d,.int .i64 s.size)::m)):QF P ops C Q (⟨some d,.call ⟨.builtin .len,#[X],#[t1]⟩,aty,pos,af,none⟩::rest) n m:=
 λ_ a=>Du a hd (λw _=>by simp [execOp,resolve,invoke,builtin,Builtin.len_,a.eval b,run_underlying c,goInt]) k
end
def qz (o:Oper):Oper:={ o with dst:=none,op:= .move (.const undef),guard:=none}
def PO (ops:Array Oper):Bool:=(List.range ops.size).all λi=>((ops[i]?).map λo=>o.after.all λe=> !Region.binds .any e||decide (e.on<i)).getD true
def dW (ops:Array Oper) (n:Nat):Bool:=(List.range ops.size).all λi=>((ops[i]?).map λo=>match o.guard with|some (j,_)=> !Nat.beq j n|none=>true).getD true
def bD (ops:Array Oper) (n:Nat):Bool:=
 match ops[n]? with
 |some on=>Nat.beq (n+1) ops.size&&Region.sinkB .any ops n&&Region.chainB .any ops n&&PO ops&&dW ops n&&Region.lexB .any (ops.setIfInBounds n (qz on))
 |none=>false
section
variable {P:Program}{ops:Array Oper}{C:World→Prop}{n:Nat}{on:Oper}
def U1 (b:ops[n]? =some on) (i:Nat):(ops.setIfInBounds n (qz on))[i]? =if i=n then some (qz on) else ops[i]? :=by
 have a:n<ops.size:=(Ab5.1 b).1;rw[Acn];by_cases h:n=i
 ·subst h;simp [a]
 ·rw[Aaw h,Aaw (λe=>h e.symm)]
def TD (b:ops[n]? =some on) (a:Array Bool):Region.ready .any (ops.setIfInBounds n (qz on)) a=Region.ready .any ops a:=by
 unfold Region.ready;simp only[Array.size_setIfInBounds];congr 1;funext i;rw[U1 b];by_cases h:i=n
 ·subst h;simp [b,qz]
 ·rw[Aaw h]
def TC (b:ops[n]? =some on) {j:Nat}(h:j≠n) (a:Array Value):yielded (ops.setIfInBounds n (qz on)) a j=yielded ops a j:=by
 unfold yielded;rw[U1 b,Aaw h]
def MR {p:Nat→Bool}:∀k,p k=false→∃i,i≤k∧p i=false∧∀j,j<i→p j=true:=by
 intro k
 induction k using Nat.strongRecOn with
 |_ k c=>
  intro d;by_cases h:∃j,j<k∧p j=false
  ·obtain⟨j,a,b⟩:=h;obtain⟨i,m,g,l⟩:=c j a b;exact⟨i,by omega,g,l⟩
  ·refine⟨k,Abd _,d,λj a=>?_⟩;cases b:p j with
   |true=>rfl
   |false=>exact absurd ⟨j,a,b⟩ h
def Vz {Q':Exit→Act→World→Prop}(y:ops[n]? =some on) (ab:n+1=ops.size) (hs:Region.sinkB .any ops n=true) (hc:Region.chainB .any ops n=true) (hb:PO ops=true) (hg:dW ops n=true):
  ∀(d:Nat) (c:Array Bool) (a:Act) (w:World),HeadInv .any ops n c→C w→
   wpAnyQ P .any (ops.setIfInBounds n (qz on)) C (λa=>∀w,C w→wpList P ops Q' [on] a w) d c a→wpAny P .any ops Q' d c a w:=by
 have z:n<ops.size:=by omega
 have o:∀c,HeadInv .any ops n c→Region.ready .any ops c≠[]:=by
  intro c k h0;have H:c.getD n true=false:=k.tail n (Abd _) z;obtain⟨i,t,Q,B⟩:=MR (p:=λi=>c.getD i true) n H;have m:i<ops.size:=by omega
  have D:i∈Region.ready .any ops c:=by
   refine mem_ready.2 ⟨Q,ops[i],by simp [m],λe he U=>?_⟩;have u:=Aa6.1 hb i (Ab9.2 m);have F:ops[i]? =some ops[i]:=by simp [m]
   rw[F] at u;simp only[Adq,Acm,Adr] at u;have h6:=u e he;simp only[U,Ab4,Ac9,Abh] at h6;have h7:=B e.on h6;have h8:e.on<c.size:=by rw[k.size];omega
   simp only[Acu,Adk h8,Acm] at h7 ⊢;exact h7
  rw[h0] at D;cases D
 intro d
 induction d with
 |zero=>
  intro c a w k _ h;have t:=h.1;rw[TD y] at t;exact absurd t (o c k)
 |succ d ih=>
  intro c a w k hw h;refine⟨λh0=>absurd h0 (o c k),λi D=>?_⟩;have V:i∈Region.ready .any (ops.setIfInBounds n (qz on)) c:=by rw[TD y];exact D
  have t:=h.2 i V;obtain⟨H,oi,x,_⟩:=mem_ready.1 D;have m:i<ops.size:=(Ab5.1 x).1;by_cases I:i=n
  ·subst I;have W:oi=on:=Aa1 (x.symm.trans y);subst W;have J:∀j,j<i→c.getD j true=true:=by
    intro j A;cases hl:c.getD j true with
    |true=>rfl
    |false=>exact absurd D (tail_waits hs hc z k _ j rfl A hl i (Abd _))
   have l:Region.ready .any ops (c.setIfInBounds i true)=[]:=by
    apply List.eq_nil_iff_forall_not_mem.2;intro j A;obtain⟨q,oj,X,_⟩:=mem_ready.1 A;have aa:j<ops.size:=(Ab5.1 X).1;have Y:i<c.size:=by rw[k.size];omega
    have ac:j<c.size:=by rw[k.size];omega
    simp only[Acu,Acn] at q;by_cases e:i=j
    ·subst e;simp [Y] at q
    ·rw[Aaw e] at q;have:=J j (by omega);simp only[Acu] at this;rw[this] at q;cases q
   unfold qOp at t;rw[U1 y,Aay rfl] at t;simp only at t;rw[Aay (by simp [Region.wanted,qz])] at t;obtain⟨v,_,Q⟩:=t;have hk:∀w,C w→wpList P ops Q' [oi] a w:=by
    cases d with
    |zero=>exact Q.2
    |succ f=>exact Q.1 (by rw[TD y];exact l)
   have B:=hk w hw;unfold wpOp;simp only[y];unfold wpList at B;have hQ:∀K w',wpList P ops Q' [] K w'→wpAny P .any ops Q' d (c.setIfInBounds i true) K w':=by
    intro K w' hq;cases d with
    |zero=>exact⟨l,hq⟩
    |succ f=>exact⟨λ_=>hq,λj A=>by rw[l] at A;cases A⟩
   split
   ·rename_i s;rw[Aay s] at B;exact B.imp (Oper.wp_mono hQ) id
   ·rename_i s;rw[Aaw s] at B;exact hQ _ _ B
  ·have M:i<n:=by omega
   have u:=wpOp_of_qOp (Q':=Q') hw (K':=wpAny P .any ops Q' d (c.setIfInBounds i true)) (λK w' s h'=>ih _ K w' (k.set D M) s h') t;unfold wpOp at u ⊢;rw[U1 y,Aaw I] at u;simp only[x] at u ⊢;have G:Region.wanted oi (yielded (ops.setIfInBounds n (qz on)) a.tmps)=Region.wanted oi (yielded ops a.tmps):=by
    have F:=Aa6.1 hg i (Ab9.2 m);rw[x] at F;simp only[Adq,Acm] at F;unfold Region.wanted;cases Z:oi.guard with
    |none=>rfl
    |some g=>
     obtain⟨j,b⟩:=g;rw[Z] at F;simp only[Abr] at F;have A:j≠n:=λe=>by subst e;simp at F
     simp only[TC y A]
   rw[G] at u;exact u
def Ol {c:Array Oper}{Q:Act→Prop}(i:∀(j:Nat) (d:Array Value),j<n→yielded c d j=yielded ops d j):
  ∀(l:List Oper) (a:Act),(∀o∈l,∀j b,o.guard=some (j,b)→j<n)→wpQuiet P ops C Q l a→wpQuiet P c C Q l a
 |[],_,_,h=>h
 |o::l,a,k,h=>by
  have s:Region.wanted o (yielded c a.tmps)=Region.wanted o (yielded ops a.tmps):=by
   unfold Region.wanted;cases m:o.guard with
   |none=>rfl
   |some g=>obtain⟨j,b⟩:=g;simp only;rw[i j _ (k o (by simp) j b m)]
  unfold wpQuiet at h ⊢;rw[s];split
  ·rename_i p;rw[Aay p] at h;obtain⟨v,t,u⟩:=h;exact⟨v,t,Ol i l _ (λo q=>k o (by simp [q])) u⟩
  ·rename_i p;rw[Aaw p] at h;exact Ol i l _ (λo q=>k o (by simp [q])) h
def mY (l:List Oper) (n:Nat):Bool:=l.all λo=>match o.guard with|some (j,_)=>Nat.blt j n|none=>true
def Sg {l:List Oper}{id:Nat}{Q':Exit→Act→World→Prop}{a:Act}{w:World}{D:Option Nat}(v:RD D (.region id l.toArray true)) (H:∀a w,¬Q' .outgrown a w) (n:Nat) (I:P.follows .mixedOrders=true) (m:bD l.toArray n=true) (x:mY (l.take n) n=true) (J:C { w with drawn:=w.drawn+1})
  (h:wpQuiet P l.toArray C (λa=>∀w,C w→wpList P l.toArray Q' (l.drop n) a w) (l.take n) a):(Code.region id l.toArray true).wpIn (FF D) 0 P Q' a w:=by
 unfold bD at m;split at m
 ·rename_i on y;simp only[Aa3] at m;obtain⟨⟨⟨⟨⟨K,M⟩,Q⟩,U⟩,V⟩,z⟩:=m;have p:=Aa8 K;have F:n+1=l.length:=by simpa using p
  have k:l.drop n=[on]:=by
   have A:l[n]? =some on:=by simpa using y
   have d:n<l.length:=by omega
   rw[Ad6 d,Ads (by omega)];have:=Abf d;rw[A] at this;rw[←Aa1 this]
  rw[k] at h;have q:(l.toArray.setIfInBounds n (qz on)).toList=l.take n++[qz on]:=by
   have d:n<l.length:=by omega
   rw[List.setIfInBounds_toArray,List.set_eq_take_append_cons_drop,Aay d,Ads (by omega)]
  have W:wpQuiet P (l.toArray.setIfInBounds n (qz on)) C (λa=>∀w,C w→wpList P l.toArray Q' [on] a w) (l.take n++[qz on]) a:=by
   refine UG n (λa=>∀w,C w→wpList P l.toArray Q' [on] a w) ?_ λa' X=>?_
   ·have e:(l.take n++[qz on]).take n=l.take n:=by
     have:(l.take n).length=n:=by simp;omega
     rw[List.take_append_of_le_length (by omega),List.take_take,Nat.min_self]
    rw[e];refine Ol (n:=n) (λj s hj=>TC y (by omega) s) _ _ (λo Y j b B=>?_) h;have:=Aa6.1 x o Y;rw[B] at this;have h8:j+1≤n:=by simpa [Nat.blt] using this
    omega
   ·have e:(l.take n++[qz on]).drop n=[qz on]:=by
     have:(l.take n).length=n:=by simp;omega
     rw[List.drop_append_of_le_length (by omega),Ads (by omega),Abj]
    rw[e];unfold wpQuiet;rw[Aay (by simp [Region.wanted,qz])];exact⟨undef,λw _=>by unfold Oper.quietAt;simp [execOp,qz,Act.eval,Oper.quietUpon],X⟩
  simp only[Region.lexB,Aa3] at z;refine O2 v H I ?_;have g:(l.toArray.setIfInBounds n (qz on)).size=l.toArray.size:=by simp
  have c:(l.take n++[qz on]).length=l.toArray.size:=by rw[←q,Aec,g]
  have u:HeadInv .any l.toArray n (Array.replicate l.toArray.size false):=
   ⟨by simp,λj oj _ G=>(by rw[getD_replicate_false] at G;cases G),λt _ Z=>getD_in (by simpa using Z) (getD_replicate_false _ _)⟩
  have i:=wpAnyQ_lex (P:=P) (C:=C) (md:= .any) z.1 (l.take n++[qz on]) 0 (Array.replicate l.toArray.size false) a (λj=>by rw[←q];simp) (by rw[c,←g];exact z.2) W;rw[c] at i;exact Vz y p M Q U V _ _ _ _ u J i
 ·cases m
end
section
variable {P:Program}{ex:List (Nat×AP)}{R N:AP}{cs:List Code}{B:World}{h:AV}{n:FN}{m:SM}{S:Nat→Prop}{L:List HP}
def MA {l:List Oper}{id:Nat}(j:Nat) (g:P.follows .mixedOrders=true) (i:bD l.toArray j=true) (b:mY (l.take j) j=true) (c:St S L h)
  (k:QF P l.toArray (Cl B h) (λa=>∀w h',Wd B h' w→St S L h'→B9 S h S h'→wpList P l.toArray (Qx ex R (W P ex R cs N)) (l.drop j) a w) (l.take j) n m):WF P ex R (.region id l.toArray true::cs) N B h n m:=by
 intro a w o p t hd;refine Sg hd NM (C:=Cl B h) j g i b ⟨h,p.drew,DX.refl h⟩ ?_;refine UG j (λa=>∀w h',Wd B h' w→St S L h'→B9 S h S h'→wpList P l.toArray (Qx ex R (W P ex R cs N)) (l.drop j) a w) (by rw[List.take_take,Nat.min_self];exact k a o) λu q=>?_;have e:(l.take j).drop j=[]:=by rw[Ads];simp;omega
 rw[e];exact λw' ⟨h',s,d⟩=>q w' h' s (d.st c) (d.ext c.1)
def KT {ops:Array Oper}{C}{Q:Exit→Act→World→Prop}{l:List Oper}(k:∀h',St S L h'→B9 S h S h'→LF P ops Q l B h' n m):QF P ops C (λa=>∀w h',Wd B h' w→St S L h'→B9 S h S h'→wpList P ops Q l a w) [] n m:=
 λa b w h' c s e=>k h' s e a w b c
end
def ix {α}(l:List α) (i:Int):Option α:=if i<0 then none else l[i.toNat]?
def upd {α}(l:List α) (i:Int) (x:α):List α:=l.set i.toNat x
def chk {α}(b:Bool) (x:Option α):Option α:=cond b x none
def Ih (n a:Nat):Bool:=decide (n*a≤140737488355328)||(decide (n*a≤175921860444160)&&decide (a≤274877906944))
def KX (len cap:Int) (a:Nat):Bool:=decide (0≤len)&&decide (len≤cap)&&decide (a*cap≤140737488355328)
def bd {α β}{a:Option α}{f:α→Option β}{r}(e:a.bind f=some r):∃x,a=some x∧f x=some r:=Ac6.1 e
def G2 {α}{b:Bool}{x y r:α}(h:b=true) (e:cond b x y=r):x=r:=by subst h;exact e
def G3 {α}{b:Bool}{x y r:α}(h:b=false) (e:cond b x y=r):y=r:=by subst h;exact e
def LQ {α}{b:Bool}{x:Option α}{r}(e:chk b x=some r):b=true∧x=some r:=by
 cases b with
 |false=>cases e
 |true=>exact⟨rfl,e⟩
def EY {α}{l:List α}{i:Int}{x:α}(h:ix l i=some x):0≤i∧l[i.toNat]? =some x:=by
 unfold ix at h;split at h
 ·cases h
 ·exact⟨by omega,h⟩
def wP {α}{l:List α}{i:Int}{x:α}(h:ix l i=some x):0≤i∧i<(l.length:Int):=by
 obtain⟨a,b⟩:=EY h;have:=(Aba.1 b).1;exact⟨a,by omega⟩
def MV {n a:Nat}(h:Ih n a=true):Js n a:=by simpa [Ih,Js] using h
def Rc {x y:Int}(a:AB x) (b:AB y):AB (max x y):=by unfold AB at *;omega
def Ni {x y:Int}(a:AB x) (b:AB y):AB (min x y):=by unfold AB at *;omega
def St.pick {S L h H L2}(a:St S L h) (p:Px L H L2):St S (H::L2) h:=⟨a.1,Sp.pick p a.2⟩
def HP.Flat (H:HP):Prop:=∀{S S' F h},H.holds S F h→H.holds S' F h
def A4.Flat {α}(r:A4 α):Prop:=∀{S h S' h' cs x},r.rd S h cs x→r.rd S' h' cs x
def LS.flat {α}{r:A4 α}(f:r.Flat) {S h S' h'}:∀{l:List α}{cs},LS S h r cs l→LS S' h' r cs l
 |[],_,k=>k
 |_::_,_,⟨a,b,e,c,d⟩=>⟨a,b,e,f c,d.flat f⟩
def OS.flat {α}{r:A4 α}{T v l}(f:r.Flat):(OS r T v l).Flat:=λ{_ _ _ _} k=>by
 rcases k with k|⟨g,cap,cur,k1,k2,k3,k4,k5,k6,k7⟩
 ·exact .inl k
 ·exact .inr ⟨g,cap,cur,k1,k2,k3,k4,k5,k6,k7.flat f⟩
def Vf:List HP→Prop
 |[]=>True
 |H::M=>H.Flat∧Vf M
def Sp.join {S S':Nat→Prop}{h}{L:List HP}:∀{M:List HP}{c d A:Nat→Prop},Vf M→Sp S' M h c→Sp S L h d→(∀b,c b→A b)→(∀b,d b→A b)→(∀b,c b→¬d b)→Sp S (M++L) h A
 |[],c,d,A,_,_,g,_,i,_=>g.mono i
 |H::M,c,d,A,⟨f,m⟩,⟨F,n,j,o⟩,g,k,i,l=>
  ⟨F,f n,λb a=>k b (j b a),Sp.join m o g (λb a=>⟨k b a.1,a.2⟩) (λb a=>⟨i b a,λp=>l b (j b p) a⟩) λb a=>l b a.1⟩
def St.join {S S' L M h h'}(d:St S L h) (e:B9 (λb=>b<h.size) h S' h') (g:St S' M h') (f:Vf M):St S (M++L) h':=by
 refine⟨λb a=>Aa9 (d.1 b a) e.siz,?_⟩;have i:Sp S L h' (λb=>b<h.size∧¬S b):=Sp.ext d.2 (λ_ x=>x) (λb a=>e.same b (a.elim (d.1 b) (·.1))) λ_ x=>x;exact Sp.join f g.2 i (λb a=>⟨a.1,λc=>a.2 (e.sub b (d.1 b c))⟩) (λb a=>⟨Aa9 a.1 e.siz,a.2⟩) λb a c=>a.2 (e.sub b c.1)
def NT {α β}(r:A4 α) (off:Nat) (r':A4 β) (g:α→β→α):Prop:=
 off+r'.sz≤r.sz∧∀{S h c x vs y},r.rd S h c x→r'.rd S h vs y→r.rd S h (Ii c off vs) (g x y)
def F9.id {α}{r:A4 α}:F9 r 0 r (λx=>x):=λ{S h cs x} k=>by
 have:=r.len k;simp only[List.drop_zero,←this,Abo];exact k
def F9.trans {α β γ}{r:A4 α}{c:A4 β}{d:A4 γ}{o1 o2 f g}(a:F9 r o1 c f) (b:F9 c o2 d g) (i:o2+d.sz≤c.sz):F9 r (o1+o2) d (λx=>g (f x)):=λ{S h cs x} k=>by
 have:=b (a k);rw[List.drop_take,List.drop_drop,List.take_take] at this;rw[Ady (by omega)] at this;exact this
def NT.id {α}{r:A4 α}:NT r 0 r (λ_ y=>y):=⟨by omega,λ{S h c x vs y} b a=>by
 have d:=r.len b;have g:=r.len a;simp only[Ii,Acb,Abj,Abz];rw[List.drop_of_length_le (by omega),Abx];exact a⟩
def NT.trans {α β γ}{r:A4 α}{d:A4 β}{g:A4 γ}{o1 o2 f g1 g2}(a:NT r o1 d g1) (k:F9 r o1 d f) (b:NT d o2 g g2):NT r (o1+o2) g (λx y=>g1 x (g2 (f x) y)):=by
 refine⟨by have:=a.1;have:=b.1;omega,λ{S h c x vs y} i j=>?_⟩;have l:=k i;have m:=b.2 l j;have n:=a.2 i m;have t:=r.len i;have u:=g.len j;have v:=a.1;have w:=b.1;have:Ii c (o1+o2) vs=Ii c o1 (Ii ((c.drop o1).take d.sz) o2 vs):=by
  unfold Ii;have l1:((c.drop o1).take d.sz).length=d.sz:=by simp;omega
  simp only[Abi,Aca,Aco];rw[List.take_take,Ady (by omega),List.drop_take,List.drop_drop];have o:c.take (o1+o2)=c.take o1++(c.drop o1).take o2:=List.take_add ..;rw[o];simp only[Adz,List.append_cancel_left_eq];have p:o1+(min o2 (min d.sz (c.length-o1))+vs.length+(min d.sz (c.length-o1)-(o2+vs.length)))=o1+d.sz:=by omega
  rw[p];have q:c.drop (o1+(o2+vs.length))=(c.drop (o1+(o2+vs.length))).take (d.sz-(o2+vs.length))++(c.drop (o1+(o2+vs.length))).drop (d.sz-(o2+vs.length)):=(Aed _ _).symm;have s:(c.drop (o1+(o2+vs.length))).drop (d.sz-(o2+vs.length))=c.drop (o1+d.sz):=by rw[List.drop_drop];congr 1;omega
  rw[←s,Adj];exact q
 rw[this];exact n
def qM {g k off:Nat}:(⟨g,k,none⟩:Addr).add off=⟨g,k+off,none⟩:=by unfold Addr.add;split<;>simp_all
def St.epAt {α β}{r:A4 α}{r':A4 β}{S L h T v l i x off f q}(o:St S L h) (p:OS r T v l∈L) (s:ix l i=some x) (t:F9 r off r' f) (u:EP v (i.toNat*r.sz+off) q):My (λb=>b<h.size) S h r' q (f x):=by
 obtain⟨g,cap,rfl,k⟩:=o.osAt p (EY s).2;obtain⟨w,n,c,d,rfl⟩:=u;injection d with d
 injection d with d
 injection d with d
 subst d;obtain⟨a,j,m⟩:=k.fld t;injection j with j
 injection j with j
 subst j;rw[qM] at m;exact m
def A4.fn {t u:Type}(P:Program) (k:t→List Value) (l:t→Prop) (m:u→Value) (d:u→Prop):A4 (t→Option u) where
 sz:=1
 ag:=false
 rd:=λS h cs w=>∃(f:FuncId) (a:Array Value),cs=[.func (.func f) #[] a]∧BK P f=true∧∀(S':Nat→Prop) (h':AV),(∀b,S b→S' b)→(∀b,S b→h'[b]? =h[b]?)→∀L,St S' L h'→∀x y,l x→w x=some y→
  B3 P f (k x++a.toList).toArray S' h' (λv g i=>v=m y∧d y∧St g L i)
 len:=λ⟨_,_,h,_⟩=>by rw[h];rfl
 one:=λ⟨_,_,h,_⟩ v j=>by rw[h] at j;simp at j;rw[j];rfl
 mono:=λ⟨f,a,n,o,p⟩ s e=>⟨f,a,n,o,λS' h' s' q=>p S' h' (λb c=>s' b (s b c)) λb c=>(q b (s b c)).trans (e b c)⟩
def Rd.fn {m n:Type}{P:Program}{i:m→List Value}{j:m→Prop}{l:n→Value}{c:n→Prop}{S h v}{o:m→Option n}(k:Rd S h (A4.fn P i j l c) v o):
  ∃(f:FuncId) (a:Array Value),v= .func (.func f) #[] a∧BK P f=true∧∀(S':Nat→Prop) (h':AV),(∀b,S b→S' b)→(∀b,S b→h'[b]? =h[b]?)→∀L,St S' L h'→∀x y,j x→o x=some y→
  B3 P f (i x++a.toList).toArray S' h' (λv d g=>v=l y∧c y∧St d L g):=by
 obtain⟨_,rfl,f,a,rfl,h⟩:=k;exact⟨f,a,rfl,h⟩
def Rd.ofFn {n o:Type}{P:Program}{i:n→List Value}{j:n→Prop}{k:o→Value}{c:o→Prop}{S h}{p:n→Option o}(f:FuncId) (a:Array Value) (l:BK P f=true)
  (m:∀(S':Nat→Prop) (h':AV),(∀b,S b→S' b)→(∀b,S b→h'[b]? =h[b]?)→∀L,St S' L h'→∀x y,j x→p x=some y→B3 P f (i x++a.toList).toArray S' h' (λv d g=>v=k y∧c y∧St d L g)):
  Rd S h (A4.fn P i j k c) (.func (.func f) #[] a) p:=⟨_,rfl,f,a,rfl,l,m⟩
def My.mono'' {α S h S' h'}{r:A4 α}{p x}(k:Pt S h r p x) (s:∀b,S b→S' b) (e:∀b,S b→h'[b]? =h[b]?):Pt S' h' r p x:=
 let ⟨cs,a,c⟩:=k;⟨cs,a.mono s e,r.mono c s e⟩
def Rd.mono'' {α S h S' h'}{r:A4 α}{v x}(k:Rd S h r v x) (s:∀b,S b→S' b) (e:∀b,S b→h'[b]? =h[b]?):Rd S' h' r v x:=
 let ⟨cs,a,c⟩:=k;⟨cs,a,r.mono c s e⟩
def St.pubb {S L L2 h b T cs}{α}{r:A4 α}{x:α}(d:St S L h) (p:Px L (Bx b T cs) L2) (g:r.rd S h cs x):∃S',St S' L2 h∧B9 S h S' h∧Pt S' h r (.pointer (some ⟨b,0,none⟩)) x:=by
 obtain⟨F,c,k,i,a⟩:=d.pub p;exact⟨_,i,a,cs,⟨⟨b,0,none⟩,rfl,rfl,.inr ((c.1 b).2 rfl),λj _=>by simp only[Abz];exact Bx.cell c j⟩,r.mono g a.sub a.same⟩
section
variable {P:Program}{ops:Array Oper}{C:World→Prop}{Q:Act→Prop}{n:FN}{m m':SM}{rest:List Oper}
variable {d:Nat}{ty:TypeId}{pos:String}{af:Array Edge}{X Y:Operand}{t t1 t2:TypeId}{x y z:Int}{kd:IntKind}{v p:Value}{S:Nat→Prop}{L:List HP}{h:AV}
def K6 {α}{r:A4 α}{l:List α}{e i x}(b:BR m X=some v) (c:BR m Y=some (.int .i64 i)) (k0:Sl S h r v l) (g:Na P t e r.sz=true) (a:Go.Proofs.YtedgiljmffngoaaGreat.ix l i=some x) (hd:Nat.blt d n.1=true)
  (k:∀q,Pt S h r q x→QF P ops C Q rest n ((d,q)::m)):QF P ops C Q (⟨some d,.indexAddr t X Y,ty,pos,af,none⟩::rest) n m:=xS b c k0 g (EY a).1 (EY a).2 hd k
def BS {α}{r:A4 α}{l:List α}{T e i x}(b:St S L h) (c:OS r T v l∈L) (g:BR m X=some v) (j:BR m Y=some (.int .i64 i)) (o:Na P t e r.sz=true) (a:Go.Proofs.YtedgiljmffngoaaGreat.ix l i=some x) (hd:Nat.blt d n.1=true)
  (k:∀q,EP v (i.toNat*r.sz+0) q→QF P ops C Q rest n ((d,q)::m)):QF P ops C Q (⟨some d,.indexAddr t X Y,ty,pos,af,none⟩::rest) n m:=tU b c g j o (EY a).1 (EY a).2 hd λq _ e=>k q e
def Xe {k0 j off:Nat}{q:Value}(b:BR m X=some q) (i:EP v k0 q) (l:Zz P t j off=true) (hd:Nat.blt d n.1=true)
  (k:∀a,EP v (k0+off) a→QF P ops C Q rest n ((d,a)::m)):QF P ops C Q (⟨some d,.fieldAddr t X j,ty,pos,af,none⟩::rest) n m:=by
 obtain⟨g,o,c,p,rfl⟩:=i;exact Im b l hd (k _ ⟨g,o,c,p,rfl⟩)
def lR (a:BR m X=some (.int .i64 x)) (b:BR m Y=some (.int .i64 y)) (hd:Nat.blt d n.1=true) (c:BC (x+y)=z) (k:QF P ops C Q rest n ((d,.int .i64 z)::m)):QF P ops C Q (⟨some d,.binOp .add t1 X Y t2,ty,pos,af,none⟩::rest) n m:=Y5 a b hd (c▸k)
def kX (a:BR m X=some (.int .i64 x)) (b:BR m Y=some (.int .i64 y)) (hd:Nat.blt d n.1=true) (c:BC (x-y)=z) (k:QF P ops C Q rest n ((d,.int .i64 z)::m)):QF P ops C Q (⟨some d,.binOp .sub t1 X Y t2,ty,pos,af,none⟩::rest) n m:=Yv a b hd (c▸k)
def gU {xs:Array Value}{i:Nat}{u:Value}(c:BR m X=some (.tuple xs)) (g:xs[i]? =some u) (hd:Nat.blt d n.1=true) (k:QF P ops C Q rest n ((d,u)::m)):QF P ops C Q (⟨some d,.extract X i,ty,pos,af,none⟩::rest) n m:=
 λa b=>Du b hd (λw _=>by simp [execOp,b.eval c,Instr.extract,g]) k
def PU {f:Fn}{b cs:Array Operand}{g i:List Value}(j:b.toList.mapM (BR m)=some g) (l:cs.toList.mapM (BR m)=some i) (hd:Nat.blt d n.1=true) (k:QF P ops C Q rest n ((d,.func f g.toArray i.toArray)::m)):QF P ops C Q (⟨some d,.makeFunc f b cs,ty,pos,af,none⟩::rest) n m:=
 λa c=>Du c hd (λw _=>by
  have e:(execOp a.eval ⟨some d,.makeFunc f b cs,ty,pos,af,none⟩).run P w= .ok (.value (.func f (b.map a.eval) (cs.map a.eval))) w:=rfl;rw[e,WY c j,WY c l]) k
end
section
variable {P:Program}{ex:List (Nat×AP)}{R N:AP}{cs:List Code}{B:World}{h:AV}{n:FN}{m m':SM}{S:Nat→Prop}{L:List HP}
def AO {i:Nat}{c:Code}(I:AP) (b:WF P ((i,I)::ex) R [c] I B h n m) (d:∀a w,I a w→W P ex R cs N a w):WF P ex R (.block i c::cs) N B h n m:=λa w g j=>Vu I (b a w g j) d
def AX {c:Code}(I:Nat→AP) (d:Nat) (h0:∀a w,Fr n a m→Wd B h w→I d a w) (j:∀a w,¬I 0 a w) (b:∀k a w,I (k+1) a w→W P ex R [c] (I k) a w):WF P ex R (.loop c::cs) N B h n m:=by
 refine kV (λi a w=>∃k,i+k=d∧I k a w) d 0 (λa w l o=>⟨d,by omega,h0 a w l o⟩) (λi a w ⟨k,p,_⟩=>by omega) λi a w ⟨k,p,g⟩=>?_;cases k with
 |zero=>exact absurd g (j a w)
 |succ k=>exact oH (b k a w g) λq w' h'=>⟨k,by omega,h'⟩
end
section
variable {P:Program}{ops:Array Oper}{Q:Exit→Act→World→Prop}{n:FN}{m:SM}{rest:List Oper}
variable {d:Nat}{ty:TypeId}{pos:String}{af:Array Edge}{X Y:Operand}{B:World}{h:AV}{S:Nat→Prop}{L L2:List HP}{v:Value}
def FA {f:Nat}{xs:Array Operand}{i:Array TypeId}{c vs:List Value}{first cap:Array Value}{g:Value→(Nat→Prop)→AV→Prop}
  (x:BR m X=some (.func (.func f) first cap)) (j:xs.toList.mapM (BR m)=some c) (l:first.toList++c++cap.toList=vs) (q:BK P f=true) (hd:Nat.blt d n.1=true) (u:St S L h) (y:B3 P f vs.toArray (λb=>b<h.size) h g)
  (k:∀v S' h',St S L h'→B9 S h S h'→B9 (λb=>b<h.size) h S' h'→g v S' h'→LF P ops Q rest B h' n ((d,v)::m)):LF P ops Q (⟨some d,.call ⟨.value X,xs,i⟩,ty,pos,af,none⟩::rest) B h n m:=
 λ_ _ s t=>dO s x j l q hd t y λv a w S' h' s t e p=>
  have o:DX h h':=⟨e.siz,λb z=>e.same b z⟩
  k v S' h' (o.st u) (o.ext u.1) e p a w s t
def Jc {α}{r:A4 α}{T e sz c:Nat}{z:List Value}{l xs:List α}{q s a sc:Nat}{b:List Value}{LL:Value→List HP}(t:BR m X=some v) (u:BR m Y=some (.slice (some ⟨q,0,none⟩) a sc)) (w:OY P T=some (e,sz,c,z)) (j:r.sz=sz)
  (x:Bx q s b∈L) (y:LS S h r b xs) (o:a=xs.length) (g:Nat.blt 0 c=true) (p:Ih (l.length+xs.length) c=true) (hd:Nat.blt d n.1=true) (A:St S L h) (C:∀i,Mu L (OS r e v l) (OS r e i (l++xs)) (LL i))
  (k:∀i h',St S (LL i) h'→B9 S h S h'→LF P ops Q rest B h' n ((d,i)::m)):LF P ops Q (⟨some d,.call ⟨.builtin .append,#[X,Y],#[T,T]⟩,ty,pos,af,none⟩::rest) B h n m:=
 mB t u w j x y o g (MV p) hd A C k
def J9 {α}{r:A4 α}{T e sz b:Nat}{z:List Value}{zx:α}{len cap:Int}{l o:IntKind}{U V:Operand}(p:OY P T=some (e,sz,b,z)) (j:r.sz=sz) (q:r.rd S h z zx)
  (s:BR m U=some (.int l len)) (t:BR m V=some (.int o cap)) (g:KX len cap b=true) (i:Nat.blt 0 b=true) (hd:Nat.blt d n.1=true) (u:St S L h)
  (k:∀v h',St S (OS r e v (List.replicate len.toNat zx)::L) h'→B9 S h S h'→LF P ops Q rest B h' n ((d,v)::m)):LF P ops Q (⟨some d,.makeSlice T U V,ty,pos,af,none⟩::rest) B h n m:=by
 simp only[KX,Aa3,Abh] at g;obtain⟨⟨h0,A⟩,w⟩:=g;obtain⟨a,rfl⟩:∃a:Nat,len=a:=⟨len.toNat,by omega⟩
 obtain⟨c,rfl⟩:∃c:Nat,cap=c:=⟨cap.toNat,by omega⟩
 have x:((b*c:Nat):Int)≤140737488355328:=by rw[Int.natCast_mul];exact w
 have C:b*c≤140737488355328:=by omega
 have y:1≤b:=by simpa [Nat.blt] using i
 have D:c≤b*c:=Nat.le_mul_of_pos_left _ y;exact xV p j q s t (by omega) (by omega) (by unfold maxLen;omega) hd u (by simpa using k)
def E9 {α β}{r:A4 α}{r':A4 β}{T' e:TypeId}{l:List α}{i:Int}{x:α}{y:β}{g:α→β→α}{off:Nat}{q u:Value}(hx:BR m X=some q) (hy:BR m Y=some u) (hu:Rd S h r' u y) (ep:EP v (i.toNat*r.sz+off) q) (ac:ix l i=some x)
  (up:NT r off r' g) (ht:Jw P T' r'.sz r'.ag=true) (h1:r'.ag=false→r'.sz=1) (hs:St S L h) (rp:Mu L (OS r e v l) (OS r e v (upd l i (g x y))) L2)
  (k:∀h',St S L2 h'→B9 S h S h'→LF P ops Q rest B h' n m):LF P ops Q (⟨none,.store T' X Y,ty,pos,af,none⟩::rest) B h n m:=by
 intro a w hf H;refine wpList_plain rfl λK hK=>?_;unfold Oper.wp;obtain⟨vs,rfl,d⟩:=hu;have o:=r'.len d;have hv:(r'.val vs).cells=vs.toArray:=by
  unfold A4.val;cases I:r'.ag with
  |true=>rfl
  |false=>
   have hl:=o;rw[h1 I] at hl
   match vs,hl,d with
   |[c],_,d=>
    have ho:=r'.one d c (by simp);cases c<;>first|rfl|(simp [Value.oneCell'] at ho)
 obtain⟨M,p,_⟩:=rp.pick;obtain⟨F,g1,g2,_⟩:=Sp.pick p hs.2;obtain⟨j,n',c',rfl,rfl⟩:=ep;obtain⟨i0,J⟩:=EY ac;have t:i.toNat<l.length:=(Aba.1 J).1;have aj:i.toNat*r.sz+r.sz≤l.length*r.sz:=by rw[←Acw];exact Acq _ t
 have ah:=up.1;obtain⟨ti,dd,hi,hd,ad,I⟩:=Qg ht;have s:∀F,(OS r e (.slice (some ⟨j,0,none⟩) n' c') l).holds S F h→(∀b,F b→b<h.size∧¬S b)→∃cur,(∀b,F b↔b=j)∧h[j]? =some (.cells cur e (0,0))∧l.length*r.sz≤cur.size∧
   ∀h',h'.size=h.size→h'[j]? =some (.cells (Ii cur.toList (i.toNat*r.sz+off) vs).toArray e (0,0))→(∀b,b≠j→h'[b]? =h[b]?)→(OS r e (.slice (some ⟨j,0,none⟩) n' c') (upd l i (g x y))).holds S F h':=by
  intro F z hF;rcases z with ⟨_,z,_⟩|⟨g0,cap,cur,z,D,k3,k4,k5,k6,k7⟩
  ·rw[z] at t;exact absurd t (Nat.not_lt_zero _)
  ·injection z with A e2 e3
   injection A with A
   injection A with A
   subst A;subst e2;subst e3;have ae:l.length*r.sz≤cur.size:=by rw[k6];exact Acq _ k4
   refine⟨cur,D,k3,ae,λh' z1 z2 z3=> .inr ⟨j,c',_,?_,D,z2,?_,k5,?_,?_⟩⟩
   ·simp [upd]
   ·simpa [upd] using k4
   ·rw[Adp,WI _ _ _ (by simp;omega)];simpa using k6
   ·have U:((Ii cur.toList (i.toNat*r.sz+off) vs).toArray.toList.take ((upd l i (g x y)).length*r.sz))=Ii (cur.toList.take (l.length*r.sz)) (i.toNat*r.sz+off) vs:=by
     unfold Ii upd;simp only[List.length_set];rw[List.take_take,Ady (by omega),List.take_append,List.take_of_length_le (by simp;omega),List.drop_take];congr 2;simp;omega
    rw[U];have C:LS S h' r (cur.toList.take (l.length*r.sz)) l:=k7.mono (λ_ x=>x) λb hb=>z3 b λe=>(hF b ((D b).2 e)).2 hb;have V:r'.rd S h' vs y:=r'.mono d (λ_ x=>x) λb hb=>z3 b λe=>(hF b ((D b).2 e)).2 hb;exact C.set J (by omega) λc W=>up.2 W V
 obtain⟨cur,m1,m2,m3,m4⟩:=s F g1 g2;have hg:w.heap[j]? =some (.cells cur e (0,0)):=by rw[H.heap];exact m2
 have Z:=run_storeCells_at P j (i.toNat*r.sz+off) e vs 0 cur w hg (by omega) (λu hu=>r'.one d u hu);have aa:(List.take (i.toNat*r.sz+off+0) cur.toList++vs++List.drop (i.toNat*r.sz+off+0+vs.length) cur.toList)=Ii cur.toList (i.toNat*r.sz+off) vs:=by simp [Ii]
 rw[aa] at Z;have ab:(execOp a.eval ⟨none,.store T' X Y,ty,pos,af,none⟩).run P w= .ok .skip (w.setRow j (Ii cur.toList (i.toNat*r.sz+off) vs).toArray):=by
  simp [execOp,hf.eval hx,hf.eval hy,Instr.storeAt,Instr.sureAddr,storeVar,hv,RS hi,ad,o,Z]
 rw[ab];obtain⟨h',A,e2,e3,U⟩:=Qj w j cur (Ii cur.toList (i.toNat*r.sz+off) vs).toArray e hg;rw[H.heap] at e2 U;obtain⟨u1,u2⟩:=hs.upd (h':=h') rp (by omega) λF z D=>by
  obtain⟨ai,q1,G,q3,q4⟩:=s F z D;rw[m2] at G;injection G with G
  injection G with G
  subst G;exact⟨F,q4 h' e2 e3 U,λc W=> .inl W,λc _ W=>U c λe=>W ((q1 c).2 e)⟩
 exact hK _ _ (k h' u1 u2 _ _ hf ⟨A,H.os,H.tape,H.out⟩)
end
end Go.Proofs.YtedgiljmffngoaaGreat
