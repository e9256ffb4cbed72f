import Derived.WalkKit
import Derived.WalkSpells
import Derived.WalkLawsBesides
import Derived.Deep.QuietTactic
import Derived.KernelRfl
namespace Go.Proofs.YtabonambpbofgaaGreat
set_option linter.all false
theorem O {α:Sort _} {a:α}:a=a:=rfl
def Aap:=@Option.bind_some
def Aaq:=@cond_true
def Aar:=@cond_false
def Aas:=@if_neg
def Aat:=@Option.some.inj
def Aau:=@congrArg
def Aav:=@if_pos
def Aaw:=@Nat.zero_le
def Aax:=@Bool.and_eq_true
def Aay:=@List.mem_cons
def Aaz:=@decide_eq_false
def Aa0:=@List.all_eq_true
def Aa1:=@List.getElem?_eq_getElem
def Aa2:=@Nat.eq_of_beq_eq_true
def Aa3:=@List.contains_iff_mem
def Aa4:=@List.getElem?_eq_some_iff
def Aa5:=@List.cons_append
def Aa6:=@List.nil_append
def Aa7:=@Nat.le_refl
def Aa8:=@Nat.lt_of_lt_of_le
def Aa9:=@List.getElem_mem
def Aba:=@decide_eq_true
def Abb:=@Nat.lt_or_ge
def Abc:=@List.not_mem_nil
def Abd:=@decide_eq_true_eq
def Abe:=@decide_eq_false_iff_not
def Abf:=@List.mem_cons_self
def Abg:=@List.map_cons
def Abh:=@Bool.or_eq_true
def Abi:=@List.length_append
def Abj:=@List.getElem?_eq_none
def Abk:=@Bool.or_eq_false_iff
def Abl:=@Bool.not_eq_true'
def Abm:=@List.mem_map
def Abn:=@or_false
def Abo:=@Int.le_refl
def Abp:=@List.mem_append
def Abq:=@Array.getElem?_eq_some_iff
def Abr:=@Option.some.injEq
def Abs:=@List.mem_cons_of_mem
def Abt:=@Nat.zero_add
def Abu:=@List.take_length
def Abv:=@List.mem_range
def Abw:=@List.ext_getElem?
def Abx:=@Int.toNat_natCast
def Aby:=@Bool.not_true
def Abz:=@List.append_assoc
def Ab0:=@List.mem_singleton
def Ab1:=@List.getD_eq_getElem?_getD
def Ab2:=@List.append_nil
def Ab3:=@List.mem_of_getElem?
def Ab4:=@List.sum_cons
def Ab5:=@Nat.le_trans
def Ab6:=@List.length_take
def Ab7:=@Option.map_eq_some_iff
def Ab8:=@List.mem_filter
def Ab9:=@List.take_succ_eq_append_getElem
def Aca:=@Nat.mul_le_mul_right
def Acb:=@Nat.add_mul
def Acc:=@Option.getD_some
def Acd:=@List.getElem?_map
def Ace:=@false_or
def Acf:=@of_decide_eq_true
def Acg:=@List.getElem?_take_of_lt
def Ach:=@List.map_append
def Aci:=@Nat.mul_one
def Acj:=@Array.getElem?_setIfInBounds
def Ack:=@Nat.succ_mul
def Acl:=@List.take_zero
def Acm:=@List.sum_append
def Acn:=@Array.getD_eq_getD_getElem?
def Aco:=@Bool.false_eq_true
def Acp:=@if_false
def Acq:=@Nat.mod_lt
def Acr:=@Option.bind_eq_some_iff
def Acs:=@List.getElem?_cons_succ
def Acu:=@List.mem_append_left
def Acv:=@List.mem_iff_getElem?
def Acw:=@List.getElem?_set_ne
def Acx:=@List.getElem?_cons_zero
def Acy:=@Option.map_some
def Acz:=@List.drop_eq_nil_of_le
def Ac0:=@List.getElem?_zipWith
def Ac1:=@List.getElem?_set_self
def Ac2:=@List.getElem?_drop
def Ac3:=@List.length_cons
def Ac4:=@Bool.not_eq_false'
def Ac5:=@Bool.false_or
def Ac6:=@List.filter_append
def Ac7:=@Nat.le_of_lt_succ
def Ac8:=@List.getElem?_replicate
def Ac9:=@List.length_drop
def Ada:=@Array.getElem?_eq_getElem
def Adb:=@List.mapM_cons
def Adc:=@Prod.mk.injEq
def Add:=@Nat.mul_comm
def Ade:=@List.drop_eq_getElem_cons
def Adf:=@Nat.min_eq_left
def Adg:=@List.find?_cons
def Adh:=@Option.isSome_iff_exists
def Adi:=@Int.mul_le_mul_of_nonneg_right
def Adj:=@List.nodup_cons
def Adk:=@Nat.mod_eq_of_lt
def Adl:=@Array.all_eq_true_iff_forall_mem
def Adm:=@List.take_take
def Adn:=@List.map_congr_left
def Ado:=@Classical.byContradiction
def Adp:=@Nat.mul_le_mul
def Adq:=@List.foldl_append
def Adr:=@Option.bind_eq_bind
def Ads:=@Option.pure_def
def Adt:=@Nat.le_of_ble_eq_true
def Adu:=@Option.isSome_none
def Adv:=@List.length_map
def Adw:=@List.getElem?_range
def Adx:=@List.size_toArray
def Ady:=@List.mem_filterMap
def Adz:=@List.mem_append_right
def Ad0:=@List.find?_append
def Ad1:=@of_decide_eq_false
def Ad2:=@Nat.two_pow_pos
def Ad3:=@Nat.div_add_mod
def Ad4:=@Nat.lt_of_le_of_lt
def Ad5:=@List.mem_or_eq_of_mem_set
def Ad6:=@Array.getElem?_eq_none
def Ad7:=@List.getElem?_append_left
def Ad8:=@List.getElem?_append_right
def Ad9:=@Array.getElem?_setIfInBounds_ne
def Aea:=@List.getElem?_take
def Aeb:=@List.filter_eq_self
def Aec:=@List.pairwise_iff_getElem
def Aed:=@Nat.div_lt_iff_lt_mul
def Aee:=@Nat.eq_zero_or_pos
def Aef:=@List.mem_iff_getElem
def Aeg:=@List.mem_of_mem_take
def Aeh:=@Array.getElem?_append_left
def Aei:=@List.eq_nil_of_length_eq_zero
def Aej:=@List.getElem?_zip_eq_some
open Go.RowKit
abbrev AO:=Array Obj
def lk:List (Nat×Value)→Nat→Option Value
 |[],_=>none
 |(i,v)::r,j=>cond (Nat.beq i j) (some v) (lk r j)
abbrev FN:=Nat×List Deferred
structure Fr (n:FN) (a:Act) (m:List (Nat×Value)):Prop where
 dfr:a.defers=n.2
 siz:a.tmps.size=n.1
 at_:∀i v,lk m i=some v→a.tmps[i]? =some v
def Bz (m:List (Nat×Value)):Operand→Option Value
 | .tmp t=>lk m t
 | .const v=>some v
 | .global g=>some (.pointer (some ⟨g,0,none⟩))
 | .func f=>some (.func (.func f) #[] #[])
def Fr.eval {n a m X v}(c:Fr n a m) (b:Bz m X=some v):a.eval X=v:=by
 cases X with
 |tmp t=>
  have:=c.at_ t v b;simp [Act.eval,Acn,this]
 |const u=>simpa [Bz,Act.eval] using b
 |global g=>simpa [Bz,Act.eval] using b
 |func f=>simpa [Bz,Act.eval] using b
def Fr.put {n a m d}(j:Fr n a m) (hd:Nat.blt d n.1=true) (v:Value):Fr n (a.put (some d) v) ((d,v)::m):=by
 have c:d<n.1:=(by simpa [Nat.blt] using hd:d+1≤n.1)
 refine⟨by simpa [Act.put] using j.dfr,by simpa [Act.put] using j.siz,λi u b=>?_⟩;simp only[Act.put,Acj];simp only[lk] at b;by_cases e:d=i
 ·subst e;have:Nat.beq d d=true:=by simp
  rw[this] at b;simp only[Aaq,Abr] at b;subst b;simp [j.siz,c]
 ·have:Nat.beq d i=false:=by
   cases g:Nat.beq d i with
   |false=>rfl
   |true=>exact absurd (Aa2 g) e
  rw[this] at b;simp only[Aar] at b;rw[Aas e];exact j.at_ i u b
def UH (m:List (Nat×Value)):List (Nat×Value)→Prop
 |[]=>True
 |e::r=>lk m e.1=some e.2∧UH m r
def Fr.sub {n a m m'}(k:Fr n a m) (d:UH m m'):Fr n a m':=by
 refine⟨k.dfr,k.siz,λi v b=>k.at_ i v ?_⟩
 induction m' with
 |nil=>simp [lk] at b
 |cons e r g=>
  obtain⟨j,u⟩:=e;simp only[lk] at b;cases c:Nat.beq j i with
  |true=>
   rw[c] at b;simp only[Aaq,Abr] at b;have:=Aa2 c;subst this;subst b;exact d.1
  |false=>
   rw[c] at b;simp only[Aar] at b;exact g d.2 b
def JN (b:AO) (a:Addr):Option Value:=
 match b[a.block]? with
 |some (.cells c _ _)=>if a.spot.isSome then none else c[a.off]?
 |_=>none
def Lu (w:World) (a:Addr):w.cell? a=JN w.heap a:=rfl
structure Wd (B:World) (h:AO) (w:World):Prop where
 heap:w.heap=h
 os:w.os=B.os
 tape:w.tape=B.tape
 out:w.output=B.output
structure BF (S:Nat→Prop) (h:AO) (S':Nat→Prop) (h':AO):Prop where
 sub:∀b,S b→S' b
 same:∀b,S b→h'[b]? =h[b]?
 siz:h.size≤h'.size
def BF.refl (S:Nat→Prop) (a:AO):BF S a S a:=⟨λ_ x=>x,λ_ _=>rfl,Aa7 _⟩
def BF.trans {S h S' h' S'' h''}(x:BF S h S' h') (y:BF S' h' S'' h''):BF S h S'' h'':=
 ⟨λb a=>y.sub b (x.sub b a),λb a=>(y.same b (x.sub b a)).trans (x.same b a),Ab5 x.siz y.siz⟩
def Td {b h':AO}{a:Addr}(e:h'[a.block]? =b[a.block]?):JN h' a=JN b a:=by simp [JN,e]
structure HP where
 holds:(Nat→Prop)→(Nat→Prop)→AO→Prop
 loc:∀{S S' F h h'},holds S F h→(∀b,S b→S' b)→(∀b,S b∨F b→h'[b]? =h[b]?)→holds S' F h'
def Sp (S:Nat→Prop):List HP→AO→(Nat→Prop)→Prop
 |[],_,_=>True
 |H::L,a,A=>∃F,H.holds S F a∧(∀b,F b→A b)∧Sp S L a (λb=>A b∧¬F b)
def St (S:Nat→Prop) (L:List HP) (a:AO):Prop:=(∀b,S b→b<a.size)∧Sp S L a (λb=>b<a.size∧¬S b)
def Sp.mono {S:Nat→Prop}{L h}:∀{A c:Nat→Prop},Sp S L h A→(∀b,A b→c b)→Sp S L h c:=by
 induction L with
 |nil=>intros;trivial
 |cons H L g=>
  rintro A c ⟨F,i,j,k⟩ d;exact⟨F,i,λb a=>d b (j b a),g k λb a=>⟨d b a.1,a.2⟩⟩
def Sp.ext {S S':Nat→Prop}{L h h'}:∀{A c:Nat→Prop},Sp S L h A→(∀b,S b→S' b)→(∀b,S b∨A b→h'[b]? =h[b]?)→(∀b,A b→c b)→Sp S' L h' c:=by
 induction L with
 |nil=>intros;trivial
 |cons H L k=>
  rintro A c ⟨F,l,d,m⟩ g i j;refine⟨F,H.loc l g λb a=>i b (a.imp_right (d b)),λb a=>j b (d b a),?_⟩;exact k m g (λb a=>i b (a.imp_right (·.1))) λb a=>⟨j b a.1,a.2⟩
inductive MR:List HP→HP→HP→List HP→Prop
 |head {L H H'}:MR (H::L) H H' (H'::L)
 |tail {K L H H' L2}:MR L H H' L2→MR (K::L) H H' (K::L2)
inductive PY:List HP→HP→List HP→Prop
 |head {L H}:PY (H::L) H L
 |tail {K L H L2}:PY L H L2→PY (K::L) H (K::L2)
def Sp.pick {S:Nat→Prop}{h}{L c:List HP}{H:HP}(p:PY L H c):∀{A:Nat→Prop},Sp S L h A→Sp S (H::c) h A:=by
 induction p with
 |head=>exact id
 |tail p g=>
  rintro A ⟨F,i,j,k⟩;obtain⟨G,l,d,m⟩:=g k;refine⟨G,l,λb a=>(d b a).1,F,i,λb a=>⟨j b a,λn=>(d b n).2 a⟩,m.mono λb a=>⟨⟨a.1.1,a.2⟩,a.1.2⟩⟩
def NZ {S:Nat→Prop}{h}{L c:List HP}{H:HP}(p:PY L H c):∀{A:Nat→Prop},Sp S (H::c) h A→Sp S L h A:=by
 induction p with
 |head=>exact id
 |tail p g=>
  rintro A ⟨G,i,j,F,k,d,l⟩;refine⟨F,k,λb a=>(d b a).1,g ⟨G,i,λb a=>⟨j b a,λm=>(d b m).2 a⟩,l.mono λb a=>⟨⟨a.1.1,a.2⟩,a.1.2⟩⟩⟩
def MR.pick {L H H' L2}(r:MR L H H' L2):∃M,PY L H M∧PY L2 H' M:=by
 induction r with
 |head=>exact⟨_,.head,.head⟩
 |tail r a=>obtain⟨M,p,q⟩:=a;exact⟨_,.tail p,.tail q⟩
def Sp.get {S:Nat→Prop}{h}{L:List HP}{H:HP}{A:Nat→Prop}(a:H∈L) (c:Sp S L h A):∃F,H.holds S F h∧∀b,F b→A b:=by
 induction L generalizing A with
 |nil=>cases a
 |cons K L d=>
  obtain⟨F,g,i,j⟩:=c;cases a with
  |head=>exact⟨F,g,i⟩
  |tail _ a=>obtain⟨G,k,l⟩:=d a j;exact⟨G,k,λb m=>(l b m).1⟩
def St.get {S L h H}(a:St S L h) (c:H∈L):∃F,H.holds S F h∧∀b,F b→b<h.size∧¬S b:=Sp.get c a.2
def St.upd {S L h H H' L2 h'}(d:St S L h) (r:MR L H H' L2) (g:h.size≤h'.size)
  (k:∀F,H.holds S F h→(∀b,F b→b<h.size∧¬S b)→∃i,H'.holds S i h'∧(∀b,i b→F b∨(h.size≤b∧b<h'.size))∧∀b,b<h.size→¬F b→h'[b]? =h[b]?):
  St S L2 h'∧BF S h S h':=by
 obtain⟨M,p,q⟩:=r.pick;obtain⟨F,t,j,u⟩:=Sp.pick p d.2;obtain⟨i,v,n,o⟩:=k F t j;have s:∀b,S b→h'[b]? =h[b]? :=λb a=>o b (d.1 b a) λc=>(j b c).2 a;refine⟨⟨λb a=>Aa8 (d.1 b a) g,?_⟩,λ_ x=>x,s,g⟩;refine NZ q ⟨i,v,λb a=>?_,?_⟩
 ·rcases n b a with c|⟨hl,hu⟩
  ·exact⟨Aa8 (j b c).1 g,(j b c).2⟩
  ·exact⟨hu,λl=>absurd (d.1 b l) (by omega)⟩
 ·refine Sp.ext u (λ_ x=>x) (λb a=>?_) λb a=>⟨⟨Aa8 a.1.1 g,a.1.2⟩,λm=>?_⟩
  ·rcases a with a|a
   ·exact s b a
   ·exact o b a.1.1 a.2
  ·rcases n b m with c|⟨hl,_⟩
   ·exact a.2 c
   ·exact absurd a.1.1 (by omega)
def St.add {S L h H' h'}(c:St S L h) (g:h.size≤h'.size) (l:∀b,b<h.size→h'[b]? =h[b]?)
  (k:∃d,H'.holds S d h'∧∀b,d b→h.size≤b∧b<h'.size):St S (H'::L) h'∧BF S h S h':=by
 obtain⟨d,m,i⟩:=k;refine⟨⟨λb a=>Aa8 (c.1 b a) g,d,m,λb a=>⟨(i b a).2,λj=>absurd (c.1 b j) (by have:=(i b a).1;omega)⟩,?_⟩,λ_ x=>x,λb a=>l b (c.1 b a),g⟩;refine Sp.ext c.2 (λ_ x=>x) (λb a=>l b (a.elim (c.1 b) (·.1))) λb a=>⟨⟨Aa8 a.1 g,a.2⟩,λn=>absurd a.1 (by have:=(i b n).1;omega)⟩
def St.pub {S L k H L2}(c:St S L k) (p:PY L H L2):∃F,H.holds S F k∧(∀b,F b→b<k.size∧¬S b)∧St (λb=>S b∨F b) L2 k∧BF S k (λb=>S b∨F b) k:=by
 obtain⟨F,g,d,i⟩:=Sp.pick p c.2;refine⟨F,g,d,⟨λb a=>a.elim (c.1 b) λj=>(d b j).1,?_⟩,λ_ x=> .inl x,λ_ _=>rfl,Aa7 _⟩;exact Sp.ext i (λ_ x=> .inl x) (λ_ _=>rfl) λb a=>⟨a.1.1,λk=>k.elim a.1.2 a.2⟩
def St.drop {S L h H L2}(a:St S L h) (p:PY L H L2):St S L2 h:=by
 obtain⟨F,g,i,c⟩:=Sp.pick p a.2;exact⟨a.1,c.mono λb d=>d.1⟩
structure A5 (α:Type) where
 sz:Nat
 ag:Bool
 rd:(Nat→Prop)→AO→List Value→α→Prop
 len:∀{S h cs x},rd S h cs x→cs.length=sz
 one:∀{S h cs x},rd S h cs x→∀v∈cs,v.oneCell'=true
 mono:∀{S S' h h' cs x},rd S h cs x→(∀b,S b→S' b)→(∀b,S b→h'[b]? =h[b]?)→rd S' h' cs x
def A5.val {α}(r:A5 α) (cs:List Value):Value:=if r.ag then .agg cs.toArray else cs.headD undef
def Rd {α}(S:Nat→Prop) (a:AO) (r:A5 α) (v:Value) (x:α):Prop:=∃cs,v=r.val cs∧r.rd S a cs x
def Rd.mono {α S h S' h'}{r:A5 α}{v x}(k:Rd S h r v x) (e:BF S h S' h'):Rd S' h' r v x:=
 let ⟨cs,a,b⟩:=k;⟨cs,a,r.mono b e.sub e.same⟩
def Nc (S:Nat→Prop) (b:AO) (p:Value) (cs:List Value):Prop:=
 ∃a:Addr,p= .pointer (some a)∧a.spot=none∧S a.block∧∀j,j<cs.length→JN b ⟨a.block,a.off+j,none⟩=cs[j]?
def Nc.mono {S h S' h' p cs}(k:Nc S h p cs) (s:∀b,S b→S' b) (e:∀b,S b→h'[b]? =h[b]?):Nc S' h' p cs:=
 let ⟨a,d,g,c,i⟩:=k;⟨a,d,g,s _ c,λj l=>(Td (a:=⟨a.block,a.off+j,none⟩) (e _ c)).trans (i j l)⟩
def Mv {α}(A S:Nat→Prop) (a:AO) (r:A5 α) (p:Value) (x:α):Prop:=∃cs,Nc A a p cs∧r.rd S a cs x
abbrev Pt {α}(S:Nat→Prop) (a:AO) (r:A5 α) (p:Value) (x:α):Prop:=Mv S S a r p x
def Mv.mono {α S h S' h'}{r:A5 α}{p x}(k:Pt S h r p x) (e:BF S h S' h'):Pt S' h' r p x:=
 let ⟨cs,a,b⟩:=k;⟨cs,a.mono e.sub e.same,r.mono b e.sub e.same⟩
def AA (n:Int):Prop:= -9223372036854775808≤n∧n≤9223372036854775807
def AB:A5 Int where
 sz:=1
 ag:=false
 rd:=λ_ _ cs x=>cs=[.int .i64 x]∧AA x
 len:=λ⟨b,_⟩=>by rw[b];rfl
 one:=λ⟨b,_⟩ v a=>by rw[b] at a;simp at a;rw[a];rfl
 mono:=λb _ _=>b
def A5.bool:A5 Bool where
 sz:=1
 ag:=false
 rd:=λ_ _ cs x=>cs=[.bool x]
 len:=λb=>by rw[b];rfl
 one:=λb v a=>by rw[b] at a;simp at a;rw[a];rfl
 mono:=λb _ _=>b
def A5.str:A5 ByteArray where
 sz:=1
 ag:=false
 rd:=λ_ _ cs x=>cs=[.string x]∧x.size≤maxLen
 len:=λ⟨b,_⟩=>by rw[b];rfl
 one:=λ⟨b,_⟩ v a=>by rw[b] at a;simp at a;rw[a];rfl
 mono:=λb _ _=>b
def Sl {α}(S:Nat→Prop) (b:AO) (r:A5 α) (v:Value) (l:List α):Prop:=
 (v= .slice none 0 0∧l=[])∨
 ∃(a:Addr) (cap:Nat),v= .slice (some a) l.length cap∧l.length≤cap∧cap≤maxLen∧
  ∀i x,l[i]? =some x→a.spot=none∧Pt S b r (.pointer (some ⟨a.block,a.off+i*r.sz,none⟩)) x
def Sl.mono {α S h S' h'}{r:A5 α}{v l}(k:Sl S h r v l) (s:∀b,S b→S' b) (e:∀b,S b→h'[b]? =h[b]?):Sl S' h' r v l:=by
 rcases k with k|⟨a,cap,h1,h4,h5,h6⟩
 ·exact .inl k
 ·refine .inr ⟨a,cap,h1,h4,h5,λi x d=>?_⟩;obtain⟨c,cs,g,j⟩:=h6 i x d;exact⟨c,cs,g.mono s e,r.mono j s e⟩
def Sl.len {α S h}{r:A5 α}{v l}(k:Sl S h r v l):∃a cap,v= .slice a l.length cap∧l.length≤maxLen:=by
 rcases k with ⟨rfl,rfl⟩|⟨a,cap,h1,h4,h5,h6⟩
 ·exact⟨none,0,rfl,Aaw _⟩
 ·exact⟨some a,cap,h1,Ab5 h4 h5⟩
def A5.sl {α}(r:A5 α):A5 (List α) where
 sz:=1
 ag:=false
 rd:=λS d cs l=>∃v,cs=[v]∧Sl S d r v l
 len:=λ⟨_,d,_⟩=>by rw[d];rfl
 one:=λ⟨u,d,k⟩ v b=>by
  rw[d] at b;simp at b;rw[b];rcases k with ⟨rfl,_⟩|⟨a,c,rfl,_⟩<;>rfl
 mono:=λ⟨v,d,k⟩ s e=>⟨v,d,k.mono s e⟩
def Sl.mono' {α S h S' h'}{r:A5 α}{v l}(k:Sl S h r v l) (e:BF S h S' h'):Sl S' h' r v l:=k.mono e.sub e.same
def Rd.int {S a v x}(k:Rd S a AB v x):v= .int .i64 x∧AA x:=by obtain⟨_,rfl,rfl,a⟩:=k;exact⟨rfl,a⟩
def Rd.bool {S h v x}(k:Rd S h A5.bool v x):v= .bool x:=by obtain⟨_,rfl,rfl⟩:=k;rfl
def Rd.str {S a v x}(k:Rd S a A5.str v x):v= .string x∧x.size≤maxLen:=by obtain⟨_,rfl,rfl,a⟩:=k;exact⟨rfl,a⟩
def Rd.sl {α S a v x}{r:A5 α}(k:Rd S a r.sl v x):Sl S a r v x:=by obtain⟨_,rfl,_,rfl,a⟩:=k;exact a
def Jx {α S h v x}{r:A5 α}(k:Sl S h r v x):Rd S h r.sl v x:=⟨[v],rfl,v,rfl,k⟩
def Fd {α β}(r:A5 α) (o:Nat) (r':A5 β) (f:α→β):Prop:=
 ∀{S a cs x},r.rd S a cs x→r'.rd S a ((cs.drop o).take r'.sz) (f x)
def Mv.fld {α β A S h}{r:A5 α}{r':A5 β}{o f p x}(k:Mv A S h r p x) (b:Fd r o r' f):
  ∃a:Addr,p= .pointer (some a)∧Mv A S h r' (.pointer (some (a.add o))) (f x):=by
 obtain⟨cs,⟨a,rfl,c,d,g⟩,i⟩:=k;refine⟨a,rfl,_,⟨a.add o,rfl,?_,?_,?_⟩,b i⟩
 ·unfold Addr.add;split<;>simp [c]
 ·unfold Addr.add;split<;>exact d
 ·intro j l;have m:(a.add o).block=a.block:=by unfold Addr.add;split<;>rfl
  have n:(a.add o).off=a.off+o:=by unfold Addr.add;split<;>simp_all
  rw[m,n];simp only[Ab6,Ac9] at l;have:=g (o+j) (by omega);rw[Nat.add_assoc,this,Acg (by omega),Ac2]
abbrev BO (n:Int):Int:=IntKind.i64.wrap n
def Pn {n:Int}(h:AA n):BO n=n:=IntWalk.i64_in n h
def BT (n:Int):AA (BO n):=by
 unfold BO AA;rw[IntKind.wrap_i64];omega
def PF (x y:Int):(x==y)=decide (x=y):=by rw[Bool.eq_iff_iff];simp
def jL:TypeDesc→Bool
 | .struct _| .array _ _=>true
 |_=>false
def KQ (P:Program) (t:TypeId) (sz:Nat) (ag:Bool):Bool:=
 match P.info? t,P.underlying t with
 |some i,some d=>Nat.beq i.size sz&&(match d with| .struct _| .array _ _=>ag|_=> !ag)
 |_,_=>false
def OT (P:Program) (t e sz:Nat):Bool:=
 match P.underlying t,P.info? e with
 |some (.slice a),some i=>Nat.beq a e&&Nat.beq i.size sz&& !Nat.beq sz 0
 |_,_=>false
def Zc (P:Program) (t j off:Nat):Bool:=
 match P.underlying t with
 |some (.struct a)=>match a[j]? with
  |some f=>Nat.beq f.offset off&&(match P.info? f.type with|some i=> !Nat.beq i.size 0|none=>false)
  |none=>false
 |_=>false
def QG {P t sz ag}(h:KQ P t sz ag=true):∃i d,P.info? t=some i∧P.underlying t=some d∧i.size=sz∧jL d=ag:=by
 unfold KQ at h;split at h
 ·rename_i i d a hd;simp only[Aax] at h;refine⟨i,d,a,hd,Aa2 h.1,?_⟩;have b:=h.2;cases d<;>cases ag<;>simp_all [jL]
 ·cases h
def Lp {P t e sz}(h:OT P t e sz=true):∃i,P.underlying t=some (.slice e)∧P.info? e=some i∧i.size=sz∧0<sz:=by
 unfold OT at h;split at h
 ·rename_i k i d g;simp only[Aax,Abl] at h;obtain⟨⟨a,b⟩,c⟩:=h;have j:=Aa2 a;subst j;refine⟨i,d,g,Aa2 b,?_⟩;cases sz with
  |zero=>simp at c
  |succ n=>exact Nat.succ_pos _
 ·cases h
def dC {P t j off}(h:Zc P t j off=true):∃a f i,P.underlying t=some (.struct a)∧a[j]? =some f∧f.offset=off∧P.info? f.type=some i∧i.size≠0:=by
 unfold Zc at h;split at h
 ·rename_i a c;split at h
  ·rename_i f d;simp only[Aax] at h;have b:=h.2;split at b
   ·rename_i i g;refine⟨a,f,i,c,d,Aa2 h.1,g,λh0=>?_⟩;rw[h0] at b;simp at b
   ·cases b
  ·cases h
 ·cases h
section
variable {P:Program}{w:World}
def Qy {t:TypeId}{i:TypeInfo}(h:P.info? t=some i):(sizeOf t).run P w= .ok i.size w:=by simp [sizeOf,typeInfo,h]
def Tp {t d}(h:P.underlying t=some d):(isAgg t).run P w= .ok (jL d) w:=by
 simp only[isAgg,Sem.run_bind,run_underlying h,Result.andThen_ok];cases d<;>rfl
def Mf {S:Nat→Prop}{p:Value}{cs:List Value}{t sz:Nat}{ag:Bool}(k:Nc S w.heap p cs) (g:cs.length=sz) (y:KQ P t sz ag=true) (z:ag=false→sz=1):
  (Instr.loadAt t p).run P w= .ok (if ag then .agg cs.toArray else cs.headD undef) w:=by
 obtain⟨a,rfl,u,D,A⟩:=k;obtain⟨i,d,B,hd,C,n⟩:=QG y;have JN:∀j,j<cs.length→w.cell? (a.add j)=cs[j]? :=λj m=>by
  have:=A j m;obtain⟨b,o,s⟩:=a;simp only at u;subst u;have l:(⟨b,o,none⟩:Addr).add j=⟨b,o+j,none⟩:=by unfold Addr.add;split<;>simp_all
  rw[l,Lu];exact this
 simp only[Instr.loadAt,Instr.sureAddr,loadVar,Sem.run_bind,Sem.run_pure,Result.andThen_ok,Tp hd,n];cases ag with
 |true=>
  simp only[if_true,Sem.run_bind,Qy B,Result.andThen_ok,C,←g];rw[run_loadCells_list (P:=P) w a cs (λj v m=>by
   have q:j<cs.length:=(Aa4.1 m).1;rw[JN j q,m])]
  rfl
 |false=>
  have:=z rfl;have x:=JN 0 (by omega)
  match cs,g with
  |[c],_=>
   have h0:a.add 0=a:=by unfold Addr.add;simp
   rw[h0] at x;simp only[Aco,Acp,load,Sem.run,x];rfl
  |[],g=>simp at g;omega
  |_::_::_,g=>simp at g;omega
def Lr {a:Addr}{t j off}(h:Zc P t j off=true):(Instr.fieldAt t (.pointer (some a)) j).run P w= .ok (.pointer (some (a.add off))) w:=by
 obtain⟨l,f,i,b,c,d,g,k⟩:=dC h;simp [Instr.fieldAt,run_underlying b,c,Instr.sureAddr,fieldPlace,Qy g,k,d]
def Lq {a:Addr}{t e sz len cap:Nat}{i:Int}(h:OT P t e sz=true) (h0:0≤i) (k:i.toNat<len):
  (Instr.indexAt t (.slice (some a) len cap) (.int .i64 i)).run P w= .ok (.pointer (some (a.add (i.toNat*sz)))) w:=by
 obtain⟨c,d,g,j,l⟩:=Lp h;have b:i<(len:Int):=by omega
 simp [Instr.indexAt,asIntOf,run_underlying d,Qy g,h0,b,j]
end
def CK (C:World→Prop) (h:AO):Prop:=∀w,C w→∀b,b<h.size→w.heap[b]? =h[b]?
def Hi {B:World}{h}:CK (Wd B h) h:=λw a _ _=>by rw[a.heap]
structure EJ (h h':AO):Prop where
 siz:h.size≤h'.size
 same:∀b,b<h.size→h'[b]? =h[b]?
def EJ.refl (h:AO):EJ h h:=⟨Aa7 _,λ_ _=>rfl⟩
def EJ.trans {h h' h''}(x:EJ h h') (y:EJ h' h''):EJ h h'':=⟨Ab5 x.siz y.siz,λb a=>(y.same b (Aa8 a x.siz)).trans (x.same b a)⟩
def EJ.ext {S h h'}(o:EJ h h') (a:∀b,S b→b<h.size):BF S h S h':=⟨λ_ x=>x,λb c=>o.same b (a b c),o.siz⟩
def EJ.all {S h h'}(o:EJ h h') (a:∀b,S b→b<h.size):BF S h (λb=>b<h'.size) h':=⟨λb x=>Aa8 (a b x) o.siz,λb c=>o.same b (a b c),o.siz⟩
def EJ.st {S L h h'}(o:EJ h h') (c:St S L h):St S L h':=
 ⟨λb a=>Aa8 (c.1 b a) o.siz,Sp.ext c.2 (λ_ x=>x) (λb a=>o.same b (a.elim (c.1 b) (·.1))) λ_ a=>⟨Aa8 a.1 o.siz,a.2⟩⟩
def Cl (B:World) (h:AO) (w:World):Prop:=∃h',Wd B h' w∧EJ h h'
def PT {B:World}{h}:CK (Cl B h) h:=λ_ ⟨_,a,o⟩ b c=>by rw[a.heap];exact o.same b c
section
variable {P:Program}{ops:Array Oper}{C:World→Prop}{Q:Act→Prop}{n:FN}{a:Act}{m:List (Nat×Value)}{rest:List Oper}
variable {d:Nat}{ty:TypeId}{pos:String}{af:Array Edge}
def Fu {c:Op}{v:Value}(g:Fr n a m) (hd:Nat.blt d n.1=true)
  (b:∀w,C w→(execOp a.eval ⟨some d,c,ty,pos,af,none⟩).run P w= .ok (.value v) w)
  (k:∀a,Fr n a ((d,v)::m)→wpQuiet P ops C Q rest a):wpQuiet P ops C Q (⟨some d,c,ty,pos,af,none⟩::rest) a:=by
 unfold wpQuiet;rw[Aav (by simp [Region.wanted])];exact⟨v,λw i=>by unfold Oper.quietAt;rw[b w i];exact⟨rfl,rfl⟩,k _ (g.put hd v)⟩
def yR {o:Oper}{j e:Nat}{b:Bool}(c:Fr n a m) (d:o.guard=some (j,b)) (g:(ops[j]?).bind (·.dst)=some e) (i:lk m e=some (.bool b))
  (k:wpQuiet P ops C Q ({ o with guard:=none}::rest) a):wpQuiet P ops C Q (o::rest) a:=by
 have l:Region.wanted o (yielded ops a.tmps)=true:=by
  have:=c.at_ e _ i;simp [Region.wanted,d,yielded,g,this]
 unfold wpQuiet at k ⊢;rw[Aav l];rw[Aav (by simp [Region.wanted])] at k;exact k
def yS {o:Oper}{j e:Nat}{b:Bool}(c:Fr n a m) (g:o.guard=some (j,!b)) (i:(ops[j]?).bind (·.dst)=some e) (l:lk m e=some (.bool b)) (p:o.dst=some d) (hd:Nat.blt d n.1=true)
  (k:∀a,Fr n a ((d,undef)::m)→wpQuiet P ops C Q rest a):wpQuiet P ops C Q (o::rest) a:=by
 have q:Region.wanted o (yielded ops a.tmps)=false:=by
  have:=c.at_ e _ l;cases b<;>simp [Region.wanted,g,yielded,i,this]
 unfold wpQuiet;rw[Aas (by rw[q];exact Bool.false_ne_true),p];exact k _ (c.put hd _)
def Tq (k:Nat) (I:Act→Prop) {l:List Oper}(b:wpQuiet P ops C I (l.take k) a) (c:∀g,I g→wpQuiet P ops C Q (l.drop k) g):wpQuiet P ops C Q l a:=by
 induction k generalizing l a with
 |zero=>exact c a (by simpa [wpQuiet] using b)
 |succ k i=>
  cases l with
  |nil=>exact c a (by simpa [wpQuiet] using b)
  |cons o l=>
   simp only[List.take_succ_cons,List.drop_succ_cons] at b c;unfold wpQuiet at b ⊢;split
   ·rename_i d;rw[Aav d] at b;obtain⟨v,j,m⟩:=b;exact⟨v,j,i m c⟩
   ·rename_i d;rw[Aas d] at b;exact i b c
def yP {X v}(b:Fr n a m) (c:Bz m X=some v) (hd:Nat.blt d n.1=true)
  (k:∀a,Fr n a ((d,v)::m)→wpQuiet P ops C Q rest a):wpQuiet P ops C Q (⟨some d,.move X,ty,pos,af,none⟩::rest) a:=
 Fu b hd (λw _=>by simp [execOp,b.eval c]) k
def yU {X v}(b:Fr n a m) (c:Bz m X=some v) (hd:Nat.blt d n.1=true)
  (k:∀a,Fr n a ((d,v)::m)→wpQuiet P ops C Q rest a):wpQuiet P ops C Q (⟨some d,.assign X,ty,pos,af,none⟩::rest) a:=
 Fu b hd (λw _=>by simp [execOp,b.eval c]) k
def oV {c x y:Operand}{b:Bool}{v}(g:Fr n a m) (i:Bz m c=some (.bool b)) (j:Bz m (if b then x else y)=some v) (hd:Nat.blt d n.1=true)
  (k:∀a,Fr n a ((d,v)::m)→wpQuiet P ops C Q rest a):wpQuiet P ops C Q (⟨some d,.pick c x y,ty,pos,af,none⟩::rest) a:=
 Fu g hd (λw _=>by cases b<;>simp [execOp,g.eval i,asBool]<;>exact g.eval (by simpa using j)) k
section ints
variable {X Y:Operand}{t1 t2:TypeId}{x y:Int}{kd:IntKind}
def Oa {b:BinOp}{v:Value}(c:Fr n a m) (g:Bz m X=some (.int kd x)) (i:Bz m Y=some (.int kd y)) (hd:Nat.blt d n.1=true)
  (j:∀w,(binOp b t1 (.int kd x) (.int kd y)).run P w= .ok v w)
  (k:∀a,Fr n a ((d,v)::m)→wpQuiet P ops C Q rest a):wpQuiet P ops C Q (⟨some d,.binOp b t1 X Y t2,ty,pos,af,none⟩::rest) a:=by
 refine Fu c hd (λw _=>?_) k;have l:(eqGuard b t1 X Y (.int kd x) (.int kd y)).run P w= .ok () w:=by
  unfold eqGuard;cases b<;>simp
 simp [execOp,c.eval g,c.eval i,l,j]
def uX (b:Fr n a m) (c:Bz m X=some (.int .i64 x)) (g:Bz m Y=some (.int .i64 y)) (hd:Nat.blt d n.1=true) (i:AA (x+y))
  (k:∀a,Fr n a ((d,.int .i64 (x+y))::m)→wpQuiet P ops C Q rest a):wpQuiet P ops C Q (⟨some d,.binOp .add t1 X Y t2,ty,pos,af,none⟩::rest) a:=
 Oa b c g hd (λw=>by have:=Pn i;simp only[BO] at this;simp [binOp,Op.intArith,this]) k
def uH (b:Fr n a m) (c:Bz m X=some (.int .i64 x)) (g:Bz m Y=some (.int .i64 y)) (hd:Nat.blt d n.1=true) (i:AA (x*y))
  (k:∀a,Fr n a ((d,.int .i64 (x*y))::m)→wpQuiet P ops C Q rest a):wpQuiet P ops C Q (⟨some d,.binOp .mul t1 X Y t2,ty,pos,af,none⟩::rest) a:=
 Oa b c g hd (λw=>by have:=Pn i;simp only[BO] at this;simp [binOp,Op.intArith,this]) k
def oY (b:Fr n a m) (c:Bz m X=some (.int .i64 x)) (g:Bz m Y=some (.int .i64 y)) (hd:Nat.blt d n.1=true)
  (k:∀a,Fr n a ((d,.int .i64 (BO (x+y)))::m)→wpQuiet P ops C Q rest a):wpQuiet P ops C Q (⟨some d,.binOp .add t1 X Y t2,ty,pos,af,none⟩::rest) a:=
 Oa b c g hd (λw=>by simp [binOp,Op.intArith]) k
def oU (b:Fr n a m) (c:Bz m X=some (.int .i64 x)) (g:Bz m Y=some (.int .i64 y)) (hd:Nat.blt d n.1=true)
  (k:∀a,Fr n a ((d,.int .i64 (BO (x-y)))::m)→wpQuiet P ops C Q rest a):wpQuiet P ops C Q (⟨some d,.binOp .sub t1 X Y t2,ty,pos,af,none⟩::rest) a:=
 Oa b c g hd (λw=>by simp [binOp,Op.intArith]) k
def uK (b:Fr n a m) (c:Bz m X=some (.int kd x)) (g:Bz m Y=some (.int kd y)) (hd:Nat.blt d n.1=true)
  (k:∀a,Fr n a ((d,.bool (decide (x<y)))::m)→wpQuiet P ops C Q rest a):wpQuiet P ops C Q (⟨some d,.binOp .lss t1 X Y t2,ty,pos,af,none⟩::rest) a:=
 Oa b c g hd (λw=>by simp [binOp,Op.intCmp]) k
def uL (b:Fr n a m) (c:Bz m X=some (.int kd x)) (g:Bz m Y=some (.int kd y)) (hd:Nat.blt d n.1=true)
  (k:∀a,Fr n a ((d,.bool (decide (x≤y)))::m)→wpQuiet P ops C Q rest a):wpQuiet P ops C Q (⟨some d,.binOp .leq t1 X Y t2,ty,pos,af,none⟩::rest) a:=
 Oa b c g hd (λw=>by simp [binOp,Op.intCmp]) k
def uS (b:Fr n a m) (c:Bz m X=some (.int kd x)) (g:Bz m Y=some (.int kd y)) (hd:Nat.blt d n.1=true)
  (k:∀a,Fr n a ((d,.bool (decide (y<x)))::m)→wpQuiet P ops C Q rest a):wpQuiet P ops C Q (⟨some d,.binOp .gtr t1 X Y t2,ty,pos,af,none⟩::rest) a:=
 Oa b c g hd (λw=>by simp [binOp,Op.intCmp]) k
def uT (b:Fr n a m) (c:Bz m X=some (.int kd x)) (g:Bz m Y=some (.int kd y)) (hd:Nat.blt d n.1=true)
  (k:∀a,Fr n a ((d,.bool (decide (y≤x)))::m)→wpQuiet P ops C Q rest a):wpQuiet P ops C Q (⟨some d,.binOp .geq t1 X Y t2,ty,pos,af,none⟩::rest) a:=
 Oa b c g hd (λw=>by simp [binOp,Op.intCmp]) k
def uV (b:Fr n a m) (c:Bz m X=some (.int kd x)) (g:Bz m Y=some (.int kd y)) (hd:Nat.blt d n.1=true)
  (k:∀a,Fr n a ((d,.bool (decide (x=y)))::m)→wpQuiet P ops C Q rest a):wpQuiet P ops C Q (⟨some d,.binOp .eql t1 X Y t2,ty,pos,af,none⟩::rest) a:=
 Oa b c g hd (λw=>by simp [binOp,Op.intCmp,PF]) k
def uG (b:Fr n a m) (c:Bz m X=some (.int kd x)) (g:Bz m Y=some (.int kd y)) (hd:Nat.blt d n.1=true)
  (k:∀a,Fr n a ((d,.bool (decide (x≠y)))::m)→wpQuiet P ops C Q rest a):wpQuiet P ops C Q (⟨some d,.binOp .neq t1 X Y t2,ty,pos,af,none⟩::rest) a:=
 Oa b c g hd (λw=>by simp [binOp,Op.intCmp,bne,PF]) k
end ints
def uE {X t1 b}(c:Fr n a m) (g:Bz m X=some (.bool b)) (hd:Nat.blt d n.1=true)
  (k:∀a,Fr n a ((d,.bool (!b))::m)→wpQuiet P ops C Q rest a):wpQuiet P ops C Q (⟨some d,.unOp .not t1 X,ty,pos,af,none⟩::rest) a:=
 Fu c hd (λw _=>by simp [execOp,c.eval g,Op.unary]) k
section loads
variable {A S:Nat→Prop}{L:List HP}{h:AO}{X:Operand}{p:Value}{t:TypeId}
def lR {cs:List Value}{sz:Nat}{ag:Bool}(g:CK C h) (i:∀b,A b→b<h.size) (c:Fr n a m) (j:Bz m X=some p) (k0:Nc A h p cs) (l:cs.length=sz) (o:KQ P t sz ag=true) (q:ag=false→sz=1) (hd:Nat.blt d n.1=true)
  (k:∀a,Fr n a ((d,if ag then .agg cs.toArray else cs.headD undef)::m)→wpQuiet P ops C Q rest a):wpQuiet P ops C Q (⟨some d,.load t X,ty,pos,af,none⟩::rest) a:=by
 refine Fu c hd (λw s=>?_) k;have:=Mf (P:=P) (w:=w) (k0.mono (λ_ x=>x) λb u=>g w s b (i b u)) l o q;simp [execOp,c.eval j,this]
def bP {α}{r:A5 α}{x}(i:CK C h) (j:∀b,A b→b<h.size) (l:Fr n a m) (o:Bz m X=some p) (k0:Mv A S h r p x) (q:KQ P t r.sz r.ag=true) (s:r.ag=false→r.sz=1) (hd:Nat.blt d n.1=true)
  (k:∀v a,Fr n a ((d,v)::m)→Rd S h r v x→wpQuiet P ops C Q rest a):wpQuiet P ops C Q (⟨some d,.load t X,ty,pos,af,none⟩::rest) a:=by
 obtain⟨cs,u,g⟩:=k0;exact lR i j l o u (r.len g) q s hd λw c=>k _ w c ⟨cs,rfl,g⟩
def uQ {x}(g:CK C h) (i:∀b,A b→b<h.size) (j:Fr n a m) (l:Bz m X=some p) (k0:Mv A S h AB p x) (o:KQ P t 1 false=true) (hd:Nat.blt d n.1=true)
  (k:∀a,Fr n a ((d,.int .i64 x)::m)→AA x→wpQuiet P ops C Q rest a):wpQuiet P ops C Q (⟨some d,.load t X,ty,pos,af,none⟩::rest) a:=
 bP g i j l k0 o (λ_=>rfl) hd λv q c s=>by obtain⟨rfl,u⟩:=s.int;exact k q c u
def uR {x}(g:CK C h) (i:∀b,A b→b<h.size) (j:Fr n a m) (l:Bz m X=some p) (k0:Mv A S h A5.bool p x) (o:KQ P t 1 false=true) (hd:Nat.blt d n.1=true)
  (k:∀a,Fr n a ((d,.bool x)::m)→wpQuiet P ops C Q rest a):wpQuiet P ops C Q (⟨some d,.load t X,ty,pos,af,none⟩::rest) a:=
 bP g i j l k0 o (λ_=>rfl) hd λv q c s=>by obtain rfl:=s.bool;exact k q c
def uN {x}(g:CK C h) (i:∀b,A b→b<h.size) (j:Fr n a m) (l:Bz m X=some p) (k0:Mv A S h A5.str p x) (o:KQ P t 1 false=true) (hd:Nat.blt d n.1=true)
  (k:∀a,Fr n a ((d,.string x)::m)→x.size≤maxLen→wpQuiet P ops C Q rest a):wpQuiet P ops C Q (⟨some d,.load t X,ty,pos,af,none⟩::rest) a:=
 bP g i j l k0 o (λ_=>rfl) hd λv q c s=>by obtain⟨rfl,u⟩:=s.str;exact k q c u
def uP {α}{r:A5 α}{x}(g:CK C h) (i:∀b,A b→b<h.size) (j:Fr n a m) (l:Bz m X=some p) (k0:Mv A S h r.sl p x) (o:KQ P t 1 false=true) (hd:Nat.blt d n.1=true)
  (k:∀v a,Fr n a ((d,v)::m)→Sl S h r v x→wpQuiet P ops C Q rest a):wpQuiet P ops C Q (⟨some d,.load t X,ty,pos,af,none⟩::rest) a:=
 bP g i j l k0 o (λ_=>rfl) hd λv q c s=>k v q c s.sl
def yT {α β}{r:A5 α}{r':A5 β}{f:α→β}{j off x}(c:Fr n a m) (g:Bz m X=some p) (k0:Mv A S h r p x) (i:Fd r off r' f) (l:Zc P t j off=true) (hd:Nat.blt d n.1=true)
  (k:∀q a,Fr n a ((d,q)::m)→Mv A S h r' q (f x)→wpQuiet P ops C Q rest a):wpQuiet P ops C Q (⟨some d,.fieldAddr t X j,ty,pos,af,none⟩::rest) a:=by
 obtain⟨u,rfl,o⟩:=k0.fld i;exact Fu c hd (λw _=>by simp [execOp,c.eval g,Lr l]) λs b=>k _ s b o
def uU {b o j off}(g:Fr n a m) (i:Bz m X=some (.pointer (some ⟨b,o,none⟩))) (l:Zc P t j off=true) (hd:Nat.blt d n.1=true)
  (k:∀a,Fr n a ((d,.pointer (some ⟨b,o+off,none⟩))::m)→wpQuiet P ops C Q rest a):wpQuiet P ops C Q (⟨some d,.fieldAddr t X j,ty,pos,af,none⟩::rest) a:=by
 have c:(⟨b,o,none⟩:Addr).add off=⟨b,o+off,none⟩:=by unfold Addr.add;split<;>simp_all
 exact Fu g hd (λw _=>by simp [execOp,g.eval i,Lr l,c]) k
def Sl.at_ {α}{r:A5 α}{v:Value}{l:List α}(k0:Sl S h r v l) {i:Nat}{x:α}(d:l[i]? =some x):
  ∃(a:Addr) (cap:Nat),v= .slice (some a) l.length cap∧Pt S h r (.pointer (some (a.add (i*r.sz)))) x:=by
 rcases k0 with ⟨rfl,rfl⟩|⟨a,cap,h1,h4,h5,h6⟩
 ·simp at d
 ·refine⟨a,cap,h1,?_⟩;obtain⟨g,this⟩:=h6 i x d;obtain⟨b,o,s⟩:=a;simp only at g;subst g;have c:(⟨b,o,none⟩:Addr).add (i*r.sz)=⟨b,o+i*r.sz,none⟩:=by unfold Addr.add;split<;>simp_all
  rw[c];exact this
def yQ {α}{r:A5 α}{l:List α}{e i x Y v}(b:Fr n a m) (j:Bz m X=some v) (o:Bz m Y=some (.int .i64 i)) (k0:Sl S h r v l) (p:OT P t e r.sz=true) (h0:0≤i) (g:l[i.toNat]? =some x) (hd:Nat.blt d n.1=true)
  (k:∀q a,Fr n a ((d,q)::m)→Pt S h r q x→wpQuiet P ops C Q rest a):wpQuiet P ops C Q (⟨some d,.indexAddr t X Y,ty,pos,af,none⟩::rest) a:=by
 obtain⟨s,cap,rfl,u⟩:=k0.at_ g;have y:i.toNat<l.length:=(Aa4.1 g).1;exact Fu b hd (λw _=>by simp [execOp,b.eval j,b.eval o,Lq (P:=P) (w:=w) (cap:=cap) (a:=s) p h0 y]) λz c=>k _ z c u
def uM {α}{r:A5 α}{l:List α}{v aty e}(c:Fr n a m) (g:Bz m X=some v) (k0:Sl S h r v l) (j:OT P t e r.sz=true) (hd:Nat.blt d n.1=true)
  (k:∀a,Fr n a ((d,.int .i64 l.length)::m)→l.length≤maxLen→wpQuiet P ops C Q rest a):wpQuiet P ops C Q (⟨some d,.call ⟨.builtin .len,#[X],#[t]⟩,aty,pos,af,none⟩::rest) a:=by
 obtain⟨s,cap,rfl,o⟩:=k0.len;obtain⟨i,p,_⟩:=Lp j;exact Fu c hd (λw _=>by simp [execOp,resolve,invoke,builtin,Builtin.len_,c.eval g,run_underlying p,goInt]) λq b=>k q b o
def oW {ad len cap aty e sz}(b:Fr n a m) (c:Bz m X=some (.slice ad len cap)) (g:OT P t e sz=true) (hd:Nat.blt d n.1=true)
  (k:∀a,Fr n a ((d,.int .i64 len)::m)→wpQuiet P ops C Q rest a):wpQuiet P ops C Q (⟨some d,.call ⟨.builtin .len,#[X],#[t]⟩,aty,pos,af,none⟩::rest) a:=by
 obtain⟨i,j,_⟩:=Lp g;exact Fu b hd (λw _=>by simp [execOp,resolve,invoke,builtin,Builtin.len_,b.eval c,run_underlying j,goInt]) k
end loads
def uJ {X Y t1 t2 x y aty kd}(b:Fr n a m) (c:Bz m X=some (.int kd x)) (g:Bz m Y=some (.int kd y)) (hd:Nat.blt d n.1=true)
  (k:∀a,Fr n a ((d,.int kd (max x y))::m)→wpQuiet P ops C Q rest a):wpQuiet P ops C Q (⟨some d,.call ⟨.builtin .max,#[X,Y],#[t1,t2]⟩,aty,pos,af,none⟩::rest) a:=
 Fu b hd (λw _=>by
  have:(if y>x then y else x)=max x y:=by rw[Int.max_def];split<;>split<;>omega
  simp [execOp,resolve,invoke,builtin,Builtin.max_,Builtin.max2,b.eval c,b.eval g,this]) k
def uI {X Y t1 t2 x y aty kd}(b:Fr n a m) (c:Bz m X=some (.int kd x)) (g:Bz m Y=some (.int kd y)) (hd:Nat.blt d n.1=true)
  (k:∀a,Fr n a ((d,.int kd (min x y))::m)→wpQuiet P ops C Q rest a):wpQuiet P ops C Q (⟨some d,.call ⟨.builtin .min,#[X,Y],#[t1,t2]⟩,aty,pos,af,none⟩::rest) a:=
 Fu b hd (λw _=>by
  have:(if y<x then y else x)=min x y:=by rw[Int.min_def];split<;>split<;>omega
  simp [execOp,resolve,invoke,builtin,Builtin.min_,Builtin.min2,b.eval c,b.eval g,this]) k
end
end Go.Proofs.YtabonambpbofgaaGreat
