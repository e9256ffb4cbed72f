import Derived.WalkKit
import Derived.WalkSpells
import Derived.WalkLawsBesides
import Derived.Deep.QuietTactic
import Derived.KernelRfl
namespace Go.Proofs.YtabonambpbofgaaGreat
set_option linter.all false
theorem O {α:Sort _} {a:α}:a=a:=rfl
def Acb:=@Option.bind_some
def Acc:=@cond_true
def Acd:=@cond_false
def Ace:=@if_neg
def Acf:=@if_pos
def Acg:=@Option.some.inj
def Ach:=@congrArg
def Aci:=@Nat.zero_le
def Acj:=@Bool.and_eq_true
def Ack:=@decide_eq_false
def Acl:=@List.mem_cons
def Acm:=@List.all_eq_true
def Acn:=@List.getElem?_eq_getElem
def Aco:=@Nat.eq_of_beq_eq_true
def Acp:=@List.contains_iff_mem
def Acq:=@List.getElem?_eq_some_iff
def Acr:=@Nat.le_refl
def Acs:=@List.nil_append
def Acu:=@List.cons_append
def Acv:=@Nat.lt_of_lt_of_le
def Acw:=@List.getElem_mem
def Acx:=@decide_eq_true
def Acy:=@Nat.lt_or_ge
def Acz:=@List.map_cons
def Ac0:=@List.not_mem_nil
def Ac1:=@decide_eq_true_eq
def Ac2:=@decide_eq_false_iff_not
def Ac3:=@List.mem_singleton
def Ac4:=@List.mem_cons_self
def Ac5:=@Bool.or_eq_true
def Ac6:=@List.length_append
def Ac7:=@List.mem_append
def Ac8:=@List.getElem?_eq_none
def Ac9:=@Bool.or_eq_false_iff
def Ada:=@Bool.not_eq_true'
def Adb:=@List.mem_map
def Adc:=@or_false
def Add:=@Int.le_refl
def Ade:=@Array.getElem?_eq_some_iff
def Adf:=@List.mem_range
def Adg:=@Bool.not_true
def Adh:=@Option.some.injEq
def Adi:=@List.mem_cons_of_mem
def Adj:=@Nat.zero_add
def Adk:=@List.take_length
def Adl:=@List.ext_getElem?
def Adm:=@Int.toNat_natCast
def Adn:=@List.mem_of_getElem?
def Ado:=@List.append_assoc
def Adp:=@List.getD_eq_getElem?_getD
def Adq:=@Nat.le_trans
def Adr:=@List.append_nil
def Ads:=@List.mem_filter
def Adt:=@Option.map_eq_some_iff
def Adu:=@List.sum_cons
def Adv:=@List.length_take
def Adw:=@List.map_append
def Adx:=@List.take_succ_eq_append_getElem
def Ady:=@Nat.mul_le_mul_right
def Adz:=@Nat.add_mul
def Ad0:=@Option.getD_some
def Ad1:=@false_or
def Ad2:=@of_decide_eq_true
def Ad3:=@List.getElem?_take_of_lt
def Ad4:=@List.getElem?_map
def Ad5:=@Nat.mul_one
def Ad6:=@Array.getElem?_setIfInBounds
def Ad7:=@Nat.succ_mul
def Ad8:=@List.take_zero
def Ad9:=@List.sum_append
def Aea:=@Array.getD_eq_getD_getElem?
def Aeb:=@Bool.false_eq_true
def Aec:=@if_false
def Aed:=@Option.map_some
def Aee:=@List.drop_eq_nil_of_le
def Aef:=@List.mem_append_left
def Aeg:=@Nat.mod_lt
def Aeh:=@Option.bind_eq_some_iff
def Aei:=@List.length_cons
def Aej:=@List.getElem?_cons_succ
def Aek:=@List.mem_iff_getElem?
def Ael:=@List.getElem?_set_ne
def Aem:=@List.getElem?_cons_zero
def Aen:=@List.drop_eq_getElem_cons
def Aeo:=@Option.isSome_iff_exists
def Aep:=@List.filter_append
def Aeq:=@List.getElem?_zipWith
def Aer:=@List.getElem?_set_self
def Aes:=@List.getElem?_drop
def Aet:=@List.nodup_cons
def Aeu:=@Bool.not_eq_false'
def Aev:=@Nat.le_of_lt_succ
def Aew:=@List.getElem?_replicate
def Aex:=@List.length_drop
def Aey:=@Array.getElem?_eq_getElem
def Aez:=@List.mapM_cons
def Ae0:=@Prod.mk.injEq
def Ae1:=@Nat.mul_comm
def Ae2:=@Bool.false_or
def Ae3:=@Nat.min_eq_left
def Ae4:=@List.find?_cons
def Ae5:=@List.map_congr_left
def Ae6:=@Int.mul_le_mul_of_nonneg_right
def Ae7:=@List.length_map
def Ae8:=@Nat.mod_eq_of_lt
def Ae9:=@Array.all_eq_true_iff_forall_mem
def Afa:=@List.take_take
def Afb:=@List.nodup_append
def Afc:=@Classical.byContradiction
def Afd:=@Nat.mul_le_mul
def Afe:=@List.foldl_append
def Aff:=@Option.bind_eq_bind
def Afg:=@Option.pure_def
def Afh:=@Nat.le_of_ble_eq_true
def Afi:=@Option.isSome_none
def Afj:=@List.size_toArray
def Afk:=@List.filterMap_cons
def Afl:=@List.mem_filterMap
def Afm:=@List.mem_append_right
def Afn:=@List.find?_append
def Afo:=@Nat.two_pow_pos
def Afp:=@Nat.div_add_mod
def Afq:=@Nat.lt_of_le_of_lt
def Afr:=@List.mem_or_eq_of_mem_set
def Afs:=@List.length_filter_le
def Aft:=@List.getElem?_range
def Afu:=@Array.getElem?_eq_none
def Afv:=@List.getElem?_append_left
def Afw:=@List.getElem?_append_right
def Afx:=@Array.getElem?_setIfInBounds_ne
def Afy:=@List.getElem?_take
def Afz:=@List.filter_eq_self
def Af0:=@List.pairwise_iff_getElem
def Af1:=@of_decide_eq_false
def Af2:=@Nat.div_lt_iff_lt_mul
def Af3:=@Nat.eq_zero_or_pos
def Af4:=@List.mem_iff_getElem
def Af5:=@List.mem_of_mem_take
def Af6:=@Array.getElem?_append_left
def Af7:=@List.eq_nil_of_length_eq_zero
def Af8:=@List.getElem?_zip_eq_some
open Go.RowKit
abbrev AS:=Array Obj
def lk:List (Nat×Value)→Nat→Option Value
 |[],_=>none
 |(i,v)::r,j=>cond (Nat.beq i j) (some v) (lk r j)
abbrev FN:=Nat×List Deferred
structure Fr (n:FN) (a:Act) (m:List (Nat×Value)):Prop where
 dfr:a.defers=n.2
 siz:a.tmps.size=n.1
 at_:∀i v,lk m i=some v→a.tmps[i]? =some v
def B4 (m:List (Nat×Value)):Operand→Option Value
 | .tmp t=>lk m t
 | .const v=>some v
 | .global g=>some (.pointer (some ⟨g,0,none⟩))
 | .func f=>some (.func (.func f) #[] #[])
def Fr.eval {n a m X v}(c:Fr n a m) (b:B4 m X=some v):a.eval X=v:=by
 cases X with
 |tmp t=>
  have:=c.at_ t v b;simp [Act.eval,Aea,this]
 |const u=>simpa [B4,Act.eval] using b
 |global g=>simpa [B4,Act.eval] using b
 |func f=>simpa [B4,Act.eval] using b
def Fr.put {n a m d}(j:Fr n a m) (hd:Nat.blt d n.1=true) (v:Value):Fr n (a.put (some d) v) ((d,v)::m):=by
 have c:d<n.1:=(by simpa [Nat.blt] using hd:d+1≤n.1)
 refine⟨by simpa [Act.put] using j.dfr,by simpa [Act.put] using j.siz,λi u b=>?_⟩;simp only[Act.put,Ad6];simp only[lk] at b;by_cases e:d=i
 ·subst e;have:Nat.beq d d=true:=by simp
  rw[this] at b;simp only[Acc,Adh] at b;subst b;simp [j.siz,c]
 ·have:Nat.beq d i=false:=by
   cases g:Nat.beq d i with
   |false=>rfl
   |true=>exact absurd (Aco g) e
  rw[this] at b;simp only[Acd] at b;rw[Ace e];exact j.at_ i u b
def Un (m:List (Nat×Value)):List (Nat×Value)→Prop
 |[]=>True
 |e::r=>lk m e.1=some e.2∧Un m r
def Fr.sub {n a m m'}(k:Fr n a m) (d:Un m m'):Fr n a m':=by
 refine⟨k.dfr,k.siz,λi v b=>k.at_ i v ?_⟩
 induction m' with
 |nil=>simp [lk] at b
 |cons e r g=>
  obtain⟨j,u⟩:=e;simp only[lk] at b;cases c:Nat.beq j i with
  |true=>
   rw[c] at b;simp only[Acc,Adh] at b;have:=Aco c;subst this;subst b;exact d.1
  |false=>
   rw[c] at b;simp only[Acd] at b;exact g d.2 b
def Jm (b:AS) (a:Addr):Option Value:=
 match b[a.block]? with
 |some (.cells c _ _)=>if a.spot.isSome then none else c[a.off]?
 |_=>none
def MS (w:World) (a:Addr):w.cell? a=Jm w.heap a:=rfl
structure Wd (B:World) (h:AS) (w:World):Prop where
 heap:w.heap=h
 os:w.os=B.os
 tape:w.tape=B.tape
 out:w.output=B.output
structure CJ (S:Nat→Prop) (h:AS) (S':Nat→Prop) (h':AS):Prop where
 sub:∀b,S b→S' b
 same:∀b,S b→h'[b]? =h[b]?
 siz:h.size≤h'.size
def CJ.refl (S:Nat→Prop) (a:AS):CJ S a S a:=⟨λ_ x=>x,λ_ _=>rfl,Acr _⟩
def CJ.trans {S h S' h' S'' h''}(x:CJ S h S' h') (y:CJ S' h' S'' h''):CJ S h S'' h'':=
 ⟨λb a=>y.sub b (x.sub b a),λb a=>(y.same b (x.sub b a)).trans (x.same b a),Adq x.siz y.siz⟩
def T5 {b h':AS}{a:Addr}(e:h'[a.block]? =b[a.block]?):Jm h' a=Jm b a:=by simp [Jm,e]
structure HP where
 holds:(Nat→Prop)→(Nat→Prop)→AS→Prop
 loc:∀{S S' F h h'},holds S F h→(∀b,S b→S' b)→(∀b,S b∨F b→h'[b]? =h[b]?)→holds S' F h'
def Sp (S:Nat→Prop):List HP→AS→(Nat→Prop)→Prop
 |[],_,_=>True
 |H::L,a,A=>∃F,H.holds S F a∧(∀b,F b→A b)∧Sp S L a (λb=>A b∧¬F b)
def St (S:Nat→Prop) (L:List HP) (a:AS):Prop:=(∀b,S b→b<a.size)∧Sp S L a (λb=>b<a.size∧¬S b)
def Sp.mono {S:Nat→Prop}{L h}:∀{A c:Nat→Prop},Sp S L h A→(∀b,A b→c b)→Sp S L h c:=by
 induction L with
 |nil=>intros;trivial
 |cons H L g=>
  rintro A c ⟨F,i,j,k⟩ d;exact⟨F,i,λb a=>d b (j b a),g k λb a=>⟨d b a.1,a.2⟩⟩
def Sp.ext {S S':Nat→Prop}{L h h'}:∀{A c:Nat→Prop},Sp S L h A→(∀b,S b→S' b)→(∀b,S b∨A b→h'[b]? =h[b]?)→(∀b,A b→c b)→Sp S' L h' c:=by
 induction L with
 |nil=>intros;trivial
 |cons H L k=>
  rintro A c ⟨F,l,d,m⟩ g i j;refine⟨F,H.loc l g λb a=>i b (a.imp_right (d b)),λb a=>j b (d b a),?_⟩;exact k m g (λb a=>i b (a.imp_right (·.1))) λb a=>⟨j b a.1,a.2⟩
inductive Mx:List HP→HP→HP→List HP→Prop
 |head {L H H'}:Mx (H::L) H H' (H'::L)
 |tail {K L H H' L2}:Mx L H H' L2→Mx (K::L) H H' (K::L2)
inductive P7:List HP→HP→List HP→Prop
 |head {L H}:P7 (H::L) H L
 |tail {K L H L2}:P7 L H L2→P7 (K::L) H (K::L2)
def Sp.pick {S:Nat→Prop}{h}{L c:List HP}{H:HP}(p:P7 L H c):∀{A:Nat→Prop},Sp S L h A→Sp S (H::c) h A:=by
 induction p with
 |head=>exact id
 |tail p g=>
  rintro A ⟨F,i,j,k⟩;obtain⟨G,l,d,m⟩:=g k;refine⟨G,l,λb a=>(d b a).1,F,i,λb a=>⟨j b a,λn=>(d b n).2 a⟩,m.mono λb a=>⟨⟨a.1.1,a.2⟩,a.1.2⟩⟩
def N5 {S:Nat→Prop}{h}{L c:List HP}{H:HP}(p:P7 L H c):∀{A:Nat→Prop},Sp S (H::c) h A→Sp S L h A:=by
 induction p with
 |head=>exact id
 |tail p g=>
  rintro A ⟨G,i,j,F,k,d,l⟩;refine⟨F,k,λb a=>(d b a).1,g ⟨G,i,λb a=>⟨j b a,λm=>(d b m).2 a⟩,l.mono λb a=>⟨⟨a.1.1,a.2⟩,a.1.2⟩⟩⟩
def Mx.pick {L H H' L2}(r:Mx L H H' L2):∃M,P7 L H M∧P7 L2 H' M:=by
 induction r with
 |head=>exact⟨_,.head,.head⟩
 |tail r a=>obtain⟨M,p,q⟩:=a;exact⟨_,.tail p,.tail q⟩
def Sp.get {S:Nat→Prop}{h}{L:List HP}{H:HP}{A:Nat→Prop}(a:H∈L) (c:Sp S L h A):∃F,H.holds S F h∧∀b,F b→A b:=by
 induction L generalizing A with
 |nil=>cases a
 |cons K L d=>
  obtain⟨F,g,i,j⟩:=c;cases a with
  |head=>exact⟨F,g,i⟩
  |tail _ a=>obtain⟨G,k,l⟩:=d a j;exact⟨G,k,λb m=>(l b m).1⟩
def St.get {S L h H}(a:St S L h) (c:H∈L):∃F,H.holds S F h∧∀b,F b→b<h.size∧¬S b:=Sp.get c a.2
def St.upd {S L h H H' L2 h'}(d:St S L h) (r:Mx L H H' L2) (g:h.size≤h'.size)
  (k:∀F,H.holds S F h→(∀b,F b→b<h.size∧¬S b)→∃i,H'.holds S i h'∧(∀b,i b→F b∨(h.size≤b∧b<h'.size))∧∀b,b<h.size→¬F b→h'[b]? =h[b]?):
  St S L2 h'∧CJ S h S h':=by
 obtain⟨M,p,q⟩:=r.pick;obtain⟨F,t,j,u⟩:=Sp.pick p d.2;obtain⟨i,v,n,o⟩:=k F t j;have s:∀b,S b→h'[b]? =h[b]? :=λb a=>o b (d.1 b a) λc=>(j b c).2 a;refine⟨⟨λb a=>Acv (d.1 b a) g,?_⟩,λ_ x=>x,s,g⟩;refine N5 q ⟨i,v,λb a=>?_,?_⟩
 ·rcases n b a with c|⟨hl,hu⟩
  ·exact⟨Acv (j b c).1 g,(j b c).2⟩
  ·exact⟨hu,λl=>absurd (d.1 b l) (by omega)⟩
 ·refine Sp.ext u (λ_ x=>x) (λb a=>?_) λb a=>⟨⟨Acv a.1.1 g,a.1.2⟩,λm=>?_⟩
  ·rcases a with a|a
   ·exact s b a
   ·exact o b a.1.1 a.2
  ·rcases n b m with c|⟨hl,_⟩
   ·exact a.2 c
   ·exact absurd a.1.1 (by omega)
def St.add {S L h H' h'}(c:St S L h) (g:h.size≤h'.size) (l:∀b,b<h.size→h'[b]? =h[b]?)
  (k:∃d,H'.holds S d h'∧∀b,d b→h.size≤b∧b<h'.size):St S (H'::L) h'∧CJ S h S h':=by
 obtain⟨d,m,i⟩:=k;refine⟨⟨λb a=>Acv (c.1 b a) g,d,m,λb a=>⟨(i b a).2,λj=>absurd (c.1 b j) (by have:=(i b a).1;omega)⟩,?_⟩,λ_ x=>x,λb a=>l b (c.1 b a),g⟩;refine Sp.ext c.2 (λ_ x=>x) (λb a=>l b (a.elim (c.1 b) (·.1))) λb a=>⟨⟨Acv a.1 g,a.2⟩,λn=>absurd a.1 (by have:=(i b n).1;omega)⟩
def St.pub {S L k H L2}(c:St S L k) (p:P7 L H L2):∃F,H.holds S F k∧(∀b,F b→b<k.size∧¬S b)∧St (λb=>S b∨F b) L2 k∧CJ S k (λb=>S b∨F b) k:=by
 obtain⟨F,g,d,i⟩:=Sp.pick p c.2;refine⟨F,g,d,⟨λb a=>a.elim (c.1 b) λj=>(d b j).1,?_⟩,λ_ x=> .inl x,λ_ _=>rfl,Acr _⟩;exact Sp.ext i (λ_ x=> .inl x) (λ_ _=>rfl) λb a=>⟨a.1.1,λk=>k.elim a.1.2 a.2⟩
def St.drop {S L h H L2}(a:St S L h) (p:P7 L H L2):St S L2 h:=by
 obtain⟨F,g,i,c⟩:=Sp.pick p a.2;exact⟨a.1,c.mono λb d=>d.1⟩
structure A5 (α:Type) where
 sz:Nat
 ag:Bool
 rd:(Nat→Prop)→AS→List Value→α→Prop
 len:∀{S h cs x},rd S h cs x→cs.length=sz
 one:∀{S h cs x},rd S h cs x→∀v∈cs,v.oneCell'=true
 mono:∀{S S' h h' cs x},rd S h cs x→(∀b,S b→S' b)→(∀b,S b→h'[b]? =h[b]?)→rd S' h' cs x
def A5.val {α}(r:A5 α) (cs:List Value):Value:=if r.ag then .agg cs.toArray else cs.headD undef
def Rd {α}(S:Nat→Prop) (a:AS) (r:A5 α) (v:Value) (x:α):Prop:=∃cs,v=r.val cs∧r.rd S a cs x
def Rd.mono {α S h S' h'}{r:A5 α}{v x}(k:Rd S h r v x) (e:CJ S h S' h'):Rd S' h' r v x:=
 let ⟨cs,a,b⟩:=k;⟨cs,a,r.mono b e.sub e.same⟩
def N8 (S:Nat→Prop) (b:AS) (p:Value) (cs:List Value):Prop:=
 ∃a:Addr,p= .pointer (some a)∧a.spot=none∧S a.block∧∀j,j<cs.length→Jm b ⟨a.block,a.off+j,none⟩=cs[j]?
def N8.mono {S h S' h' p cs}(k:N8 S h p cs) (s:∀b,S b→S' b) (e:∀b,S b→h'[b]? =h[b]?):N8 S' h' p cs:=
 let ⟨a,d,g,c,i⟩:=k;⟨a,d,g,s _ c,λj l=>(T5 (a:=⟨a.block,a.off+j,none⟩) (e _ c)).trans (i j l)⟩
def NX {α}(A S:Nat→Prop) (a:AS) (r:A5 α) (p:Value) (x:α):Prop:=∃cs,N8 A a p cs∧r.rd S a cs x
abbrev Pt {α}(S:Nat→Prop) (a:AS) (r:A5 α) (p:Value) (x:α):Prop:=NX S S a r p x
def NX.mono {α S h S' h'}{r:A5 α}{p x}(k:Pt S h r p x) (e:CJ S h S' h'):Pt S' h' r p x:=
 let ⟨cs,a,b⟩:=k;⟨cs,a.mono e.sub e.same,r.mono b e.sub e.same⟩
def AA (n:Int):Prop:= -9223372036854775808≤n∧n≤9223372036854775807
def AB:A5 Int where
 sz:=1
 ag:=false
 rd:=λ_ _ cs x=>cs=[.int .i64 x]∧AA x
 len:=λ⟨b,_⟩=>by rw[b];rfl
 one:=λ⟨b,_⟩ v a=>by rw[b] at a;simp at a;rw[a];rfl
 mono:=λb _ _=>b
def A5.bool:A5 Bool where
 sz:=1
 ag:=false
 rd:=λ_ _ cs x=>cs=[.bool x]
 len:=λb=>by rw[b];rfl
 one:=λb v a=>by rw[b] at a;simp at a;rw[a];rfl
 mono:=λb _ _=>b
def A5.str:A5 ByteArray where
 sz:=1
 ag:=false
 rd:=λ_ _ cs x=>cs=[.string x]∧x.size≤maxLen
 len:=λ⟨b,_⟩=>by rw[b];rfl
 one:=λ⟨b,_⟩ v a=>by rw[b] at a;simp at a;rw[a];rfl
 mono:=λb _ _=>b
def Sl {α}(S:Nat→Prop) (b:AS) (r:A5 α) (v:Value) (l:List α):Prop:=
 (v= .slice none 0 0∧l=[])∨
 ∃(a:Addr) (cap:Nat),v= .slice (some a) l.length cap∧l.length≤cap∧cap≤maxLen∧
  ∀i x,l[i]? =some x→a.spot=none∧Pt S b r (.pointer (some ⟨a.block,a.off+i*r.sz,none⟩)) x
def Sl.mono {α S h S' h'}{r:A5 α}{v l}(k:Sl S h r v l) (s:∀b,S b→S' b) (e:∀b,S b→h'[b]? =h[b]?):Sl S' h' r v l:=by
 rcases k with k|⟨a,cap,h1,h4,h5,h6⟩
 ·exact .inl k
 ·refine .inr ⟨a,cap,h1,h4,h5,λi x d=>?_⟩;obtain⟨c,cs,g,j⟩:=h6 i x d;exact⟨c,cs,g.mono s e,r.mono j s e⟩
def Sl.len {α S h}{r:A5 α}{v l}(k:Sl S h r v l):∃a cap,v= .slice a l.length cap∧l.length≤maxLen:=by
 rcases k with ⟨rfl,rfl⟩|⟨a,cap,h1,h4,h5,h6⟩
 ·exact⟨none,0,rfl,Aci _⟩
 ·exact⟨some a,cap,h1,Adq h4 h5⟩
def A5.sl {α}(r:A5 α):A5 (List α) where
 sz:=1
 ag:=false
 rd:=λS d cs l=>∃v,cs=[v]∧Sl S d r v l
 len:=λ⟨_,d,_⟩=>by rw[d];rfl
 one:=λ⟨u,d,k⟩ v b=>by
  rw[d] at b;simp at b;rw[b];rcases k with ⟨rfl,_⟩|⟨a,c,rfl,_⟩<;>rfl
 mono:=λ⟨v,d,k⟩ s e=>⟨v,d,k.mono s e⟩
def Sl.mono' {α S h S' h'}{r:A5 α}{v l}(k:Sl S h r v l) (e:CJ S h S' h'):Sl S' h' r v l:=k.mono e.sub e.same
def Rd.int {S a v x}(k:Rd S a AB v x):v= .int .i64 x∧AA x:=by obtain⟨_,rfl,rfl,a⟩:=k;exact⟨rfl,a⟩
def Rd.bool {S h v x}(k:Rd S h A5.bool v x):v= .bool x:=by obtain⟨_,rfl,rfl⟩:=k;rfl
def Rd.str {S a v x}(k:Rd S a A5.str v x):v= .string x∧x.size≤maxLen:=by obtain⟨_,rfl,rfl,a⟩:=k;exact⟨rfl,a⟩
def Rd.sl {α S a v x}{r:A5 α}(k:Rd S a r.sl v x):Sl S a r v x:=by obtain⟨_,rfl,_,rfl,a⟩:=k;exact a
def KH {α S h v x}{r:A5 α}(k:Sl S h r v x):Rd S h r.sl v x:=⟨[v],rfl,v,rfl,k⟩
def FZ {α β}(r:A5 α) (o:Nat) (r':A5 β) (f:α→β):Prop:=
 ∀{S a cs x},r.rd S a cs x→r'.rd S a ((cs.drop o).take r'.sz) (f x)
def NX.fld {α β A S h}{r:A5 α}{r':A5 β}{o f p x}(k:NX A S h r p x) (b:FZ r o r' f):
  ∃a:Addr,p= .pointer (some a)∧NX A S h r' (.pointer (some (a.add o))) (f x):=by
 obtain⟨cs,⟨a,rfl,c,d,g⟩,i⟩:=k;refine⟨a,rfl,_,⟨a.add o,rfl,?_,?_,?_⟩,b i⟩
 ·unfold Addr.add;split<;>simp [c]
 ·unfold Addr.add;split<;>exact d
 ·intro j l;have m:(a.add o).block=a.block:=by unfold Addr.add;split<;>rfl
  have n:(a.add o).off=a.off+o:=by unfold Addr.add;split<;>simp_all
  rw[m,n];simp only[Adv,Aex] at l;have:=g (o+j) (by omega);rw[Nat.add_assoc,this,Ad3 (by omega),Aes]
abbrev BT (n:Int):Int:=IntKind.i64.wrap n
def QN {n:Int}(h:AA n):BT n=n:=IntWalk.i64_in n h
def BV (n:Int):AA (BT n):=by
 unfold BT AA;rw[IntKind.wrap_i64];omega
def Po (x y:Int):(x==y)=decide (x=y):=by rw[Bool.eq_iff_iff];simp
def lK:TypeDesc→Bool
 | .struct _| .array _ _=>true
 |_=>false
def Kh (P:Program) (t:TypeId) (sz:Nat) (ag:Bool):Bool:=
 match P.info? t,P.underlying t with
 |some i,some d=>Nat.beq i.size sz&&(match d with| .struct _| .array _ _=>ag|_=> !ag)
 |_,_=>false
def O3 (P:Program) (t e sz:Nat):Bool:=
 match P.underlying t,P.info? e with
 |some (.slice a),some i=>Nat.beq a e&&Nat.beq i.size sz&& !Nat.beq sz 0
 |_,_=>false
def aA (P:Program) (t j off:Nat):Bool:=
 match P.underlying t with
 |some (.struct a)=>match a[j]? with
  |some f=>Nat.beq f.offset off&&(match P.info? f.type with|some i=> !Nat.beq i.size 0|none=>false)
  |none=>false
 |_=>false
def Qm {P t sz ag}(h:Kh P t sz ag=true):∃i d,P.info? t=some i∧P.underlying t=some d∧i.size=sz∧lK d=ag:=by
 unfold Kh at h;split at h
 ·rename_i i d a hd;simp only[Acj] at h;refine⟨i,d,a,hd,Aco h.1,?_⟩;have b:=h.2;cases d<;>cases ag<;>simp_all [lK]
 ·cases h
def ML {P t e sz}(h:O3 P t e sz=true):∃i,P.underlying t=some (.slice e)∧P.info? e=some i∧i.size=sz∧0<sz:=by
 unfold O3 at h;split at h
 ·rename_i k i d g;simp only[Acj,Ada] at h;obtain⟨⟨a,b⟩,c⟩:=h;have j:=Aco a;subst j;refine⟨i,d,g,Aco b,?_⟩;cases sz with
  |zero=>simp at c
  |succ n=>exact Nat.succ_pos _
 ·cases h
def eZ {P t j off}(h:aA P t j off=true):∃a f i,P.underlying t=some (.struct a)∧a[j]? =some f∧f.offset=off∧P.info? f.type=some i∧i.size≠0:=by
 unfold aA at h;split at h
 ·rename_i a c;split at h
  ·rename_i f d;simp only[Acj] at h;have b:=h.2;split at b
   ·rename_i i g;refine⟨a,f,i,c,d,Aco h.1,g,λh0=>?_⟩;rw[h0] at b;simp at b
   ·cases b
  ·cases h
 ·cases h
section
variable {P:Program}{w:World}
def Rf {t:TypeId}{i:TypeInfo}(h:P.info? t=some i):(sizeOf t).run P w= .ok i.size w:=by simp [sizeOf,typeInfo,h]
def UJ {t d}(h:P.underlying t=some d):(isAgg t).run P w= .ok (lK d) w:=by
 simp only[isAgg,Sem.run_bind,run_underlying h,Result.andThen_ok];cases d<;>rfl
def NC {S:Nat→Prop}{p:Value}{cs:List Value}{t sz:Nat}{ag:Bool}(k:N8 S w.heap p cs) (g:cs.length=sz) (y:Kh P t sz ag=true) (z:ag=false→sz=1):
  (Instr.loadAt t p).run P w= .ok (if ag then .agg cs.toArray else cs.headD undef) w:=by
 obtain⟨a,rfl,u,D,A⟩:=k;obtain⟨i,d,B,hd,C,n⟩:=Qm y;have Jm:∀j,j<cs.length→w.cell? (a.add j)=cs[j]? :=λj m=>by
  have:=A j m;obtain⟨b,o,s⟩:=a;simp only at u;subst u;have l:(⟨b,o,none⟩:Addr).add j=⟨b,o+j,none⟩:=by unfold Addr.add;split<;>simp_all
  rw[l,MS];exact this
 simp only[Instr.loadAt,Instr.sureAddr,loadVar,Sem.run_bind,Sem.run_pure,Result.andThen_ok,UJ hd,n];cases ag with
 |true=>
  simp only[if_true,Sem.run_bind,Rf B,Result.andThen_ok,C,←g];rw[run_loadCells_list (P:=P) w a cs (λj v m=>by
   have q:j<cs.length:=(Acq.1 m).1;rw[Jm j q,m])]
  rfl
 |false=>
  have:=z rfl;have x:=Jm 0 (by omega)
  match cs,g with
  |[c],_=>
   have h0:a.add 0=a:=by unfold Addr.add;simp
   rw[h0] at x;simp only[Aeb,Aec,load,Sem.run,x];rfl
  |[],g=>simp at g;omega
  |_::_::_,g=>simp at g;omega
def MN {a:Addr}{t j off}(h:aA P t j off=true):(Instr.fieldAt t (.pointer (some a)) j).run P w= .ok (.pointer (some (a.add off))) w:=by
 obtain⟨l,f,i,b,c,d,g,k⟩:=eZ h;simp [Instr.fieldAt,run_underlying b,c,Instr.sureAddr,fieldPlace,Rf g,k,d]
def MM {a:Addr}{t e sz len cap:Nat}{i:Int}(h:O3 P t e sz=true) (h0:0≤i) (k:i.toNat<len):
  (Instr.indexAt t (.slice (some a) len cap) (.int .i64 i)).run P w= .ok (.pointer (some (a.add (i.toNat*sz)))) w:=by
 obtain⟨c,d,g,j,l⟩:=ML h;have b:i<(len:Int):=by omega
 simp [Instr.indexAt,asIntOf,run_underlying d,Rf g,h0,b,j]
end
def CK (C:World→Prop) (h:AS):Prop:=∀w,C w→∀b,b<h.size→w.heap[b]? =h[b]?
def Hc {B:World}{h}:CK (Wd B h) h:=λw a _ _=>by rw[a.heap]
structure EY (h h':AS):Prop where
 siz:h.size≤h'.size
 same:∀b,b<h.size→h'[b]? =h[b]?
def EY.refl (h:AS):EY h h:=⟨Acr _,λ_ _=>rfl⟩
def EY.trans {h h' h''}(x:EY h h') (y:EY h' h''):EY h h'':=⟨Adq x.siz y.siz,λb a=>(y.same b (Acv a x.siz)).trans (x.same b a)⟩
def EY.ext {S h h'}(o:EY h h') (a:∀b,S b→b<h.size):CJ S h S h':=⟨λ_ x=>x,λb c=>o.same b (a b c),o.siz⟩
def EY.all {S h h'}(o:EY h h') (a:∀b,S b→b<h.size):CJ S h (λb=>b<h'.size) h':=⟨λb x=>Acv (a b x) o.siz,λb c=>o.same b (a b c),o.siz⟩
def EY.st {S L h h'}(o:EY h h') (c:St S L h):St S L h':=
 ⟨λb a=>Acv (c.1 b a) o.siz,Sp.ext c.2 (λ_ x=>x) (λb a=>o.same b (a.elim (c.1 b) (·.1))) λ_ a=>⟨Acv a.1 o.siz,a.2⟩⟩
def Cl (B:World) (h:AS) (w:World):Prop:=∃h',Wd B h' w∧EY h h'
def P3 {B:World}{h}:CK (Cl B h) h:=λ_ ⟨_,a,o⟩ b c=>by rw[a.heap];exact o.same b c
section
variable {P:Program}{ops:Array Oper}{C:World→Prop}{Q:Act→Prop}{n:FN}{a:Act}{m:List (Nat×Value)}{rest:List Oper}
variable {d:Nat}{ty:TypeId}{pos:String}{af:Array Edge}
def GI {c:Op}{v:Value}(g:Fr n a m) (hd:Nat.blt d n.1=true)
  (b:∀w,C w→(execOp a.eval ⟨some d,c,ty,pos,af,none⟩).run P w= .ok (.value v) w)
  (k:∀a,Fr n a ((d,v)::m)→wpQuiet P ops C Q rest a):wpQuiet P ops C Q (⟨some d,c,ty,pos,af,none⟩::rest) a:=by
 unfold wpQuiet;rw[Acf (by simp [Region.wanted])];exact⟨v,λw i=>by unfold Oper.quietAt;rw[b w i];exact⟨rfl,rfl⟩,k _ (g.put hd v)⟩
def Aa0 {o:Oper}{j e:Nat}{b:Bool}(c:Fr n a m) (d:o.guard=some (j,b)) (g:(ops[j]?).bind (·.dst)=some e) (i:lk m e=some (.bool b))
  (k:wpQuiet P ops C Q ({ o with guard:=none}::rest) a):wpQuiet P ops C Q (o::rest) a:=by
 have l:Region.wanted o (yielded ops a.tmps)=true:=by
  have:=c.at_ e _ i;simp [Region.wanted,d,yielded,g,this]
 unfold wpQuiet at k ⊢;rw[Acf l];rw[Acf (by simp [Region.wanted])] at k;exact k
def Aa1 {o:Oper}{j e:Nat}{b:Bool}(c:Fr n a m) (g:o.guard=some (j,!b)) (i:(ops[j]?).bind (·.dst)=some e) (l:lk m e=some (.bool b)) (p:o.dst=some d) (hd:Nat.blt d n.1=true)
  (k:∀a,Fr n a ((d,undef)::m)→wpQuiet P ops C Q rest a):wpQuiet P ops C Q (o::rest) a:=by
 have q:Region.wanted o (yielded ops a.tmps)=false:=by
  have:=c.at_ e _ l;cases b<;>simp [Region.wanted,g,yielded,i,this]
 unfold wpQuiet;rw[Ace (by rw[q];exact Bool.false_ne_true),p];exact k _ (c.put hd _)
def UK (k:Nat) (I:Act→Prop) {l:List Oper}(b:wpQuiet P ops C I (l.take k) a) (c:∀g,I g→wpQuiet P ops C Q (l.drop k) g):wpQuiet P ops C Q l a:=by
 induction k generalizing l a with
 |zero=>exact c a (by simpa [wpQuiet] using b)
 |succ k i=>
  cases l with
  |nil=>exact c a (by simpa [wpQuiet] using b)
  |cons o l=>
   simp only[List.take_succ_cons,List.drop_succ_cons] at b c;unfold wpQuiet at b ⊢;split
   ·rename_i d;rw[Acf d] at b;obtain⟨v,j,m⟩:=b;exact⟨v,j,i m c⟩
   ·rename_i d;rw[Ace d] at b;exact i b c
def Aay {X v}(b:Fr n a m) (c:B4 m X=some v) (hd:Nat.blt d n.1=true)
  (k:∀a,Fr n a ((d,v)::m)→wpQuiet P ops C Q rest a):wpQuiet P ops C Q (⟨some d,.move X,ty,pos,af,none⟩::rest) a:=
 GI b hd (λw _=>by simp [execOp,b.eval c]) k
def Aa3 {X v}(b:Fr n a m) (c:B4 m X=some v) (hd:Nat.blt d n.1=true)
  (k:∀a,Fr n a ((d,v)::m)→wpQuiet P ops C Q rest a):wpQuiet P ops C Q (⟨some d,.assign X,ty,pos,af,none⟩::rest) a:=
 GI b hd (λw _=>by simp [execOp,b.eval c]) k
def qZ {c x y:Operand}{b:Bool}{v}(g:Fr n a m) (i:B4 m c=some (.bool b)) (j:B4 m (if b then x else y)=some v) (hd:Nat.blt d n.1=true)
  (k:∀a,Fr n a ((d,v)::m)→wpQuiet P ops C Q rest a):wpQuiet P ops C Q (⟨some d,.pick c x y,ty,pos,af,none⟩::rest) a:=
 GI g hd (λw _=>by cases b<;>simp [execOp,g.eval i,asBool]<;>exact g.eval (by simpa using j)) k
section ints
variable {X Y:Operand}{t1 t2:TypeId}{x y:Int}{kd:IntKind}
def O9 {b:BinOp}{v:Value}(c:Fr n a m) (g:B4 m X=some (.int kd x)) (i:B4 m Y=some (.int kd y)) (hd:Nat.blt d n.1=true)
  (j:∀w,(binOp b t1 (.int kd x) (.int kd y)).run P w= .ok v w)
  (k:∀a,Fr n a ((d,v)::m)→wpQuiet P ops C Q rest a):wpQuiet P ops C Q (⟨some d,.binOp b t1 X Y t2,ty,pos,af,none⟩::rest) a:=by
 refine GI c hd (λw _=>?_) k;have l:(eqGuard b t1 X Y (.int kd x) (.int kd y)).run P w= .ok () w:=by
  unfold eqGuard;cases b<;>simp
 simp [execOp,c.eval g,c.eval i,l,j]
def xH (b:Fr n a m) (c:B4 m X=some (.int .i64 x)) (g:B4 m Y=some (.int .i64 y)) (hd:Nat.blt d n.1=true) (i:AA (x+y))
  (k:∀a,Fr n a ((d,.int .i64 (x+y))::m)→wpQuiet P ops C Q rest a):wpQuiet P ops C Q (⟨some d,.binOp .add t1 X Y t2,ty,pos,af,none⟩::rest) a:=
 O9 b c g hd (λw=>by have:=QN i;simp only[BT] at this;simp [binOp,Op.intArith,this]) k
def wQ (b:Fr n a m) (c:B4 m X=some (.int .i64 x)) (g:B4 m Y=some (.int .i64 y)) (hd:Nat.blt d n.1=true) (i:AA (x*y))
  (k:∀a,Fr n a ((d,.int .i64 (x*y))::m)→wpQuiet P ops C Q rest a):wpQuiet P ops C Q (⟨some d,.binOp .mul t1 X Y t2,ty,pos,af,none⟩::rest) a:=
 O9 b c g hd (λw=>by have:=QN i;simp only[BT] at this;simp [binOp,Op.intArith,this]) k
def rC (b:Fr n a m) (c:B4 m X=some (.int .i64 x)) (g:B4 m Y=some (.int .i64 y)) (hd:Nat.blt d n.1=true)
  (k:∀a,Fr n a ((d,.int .i64 (BT (x+y)))::m)→wpQuiet P ops C Q rest a):wpQuiet P ops C Q (⟨some d,.binOp .add t1 X Y t2,ty,pos,af,none⟩::rest) a:=
 O9 b c g hd (λw=>by simp [binOp,Op.intArith]) k
def qY (b:Fr n a m) (c:B4 m X=some (.int .i64 x)) (g:B4 m Y=some (.int .i64 y)) (hd:Nat.blt d n.1=true)
  (k:∀a,Fr n a ((d,.int .i64 (BT (x-y)))::m)→wpQuiet P ops C Q rest a):wpQuiet P ops C Q (⟨some d,.binOp .sub t1 X Y t2,ty,pos,af,none⟩::rest) a:=
 O9 b c g hd (λw=>by simp [binOp,Op.intArith]) k
def wU (b:Fr n a m) (c:B4 m X=some (.int kd x)) (g:B4 m Y=some (.int kd y)) (hd:Nat.blt d n.1=true)
  (k:∀a,Fr n a ((d,.bool (decide (x<y)))::m)→wpQuiet P ops C Q rest a):wpQuiet P ops C Q (⟨some d,.binOp .lss t1 X Y t2,ty,pos,af,none⟩::rest) a:=
 O9 b c g hd (λw=>by simp [binOp,Op.intCmp]) k
def wV (b:Fr n a m) (c:B4 m X=some (.int kd x)) (g:B4 m Y=some (.int kd y)) (hd:Nat.blt d n.1=true)
  (k:∀a,Fr n a ((d,.bool (decide (x≤y)))::m)→wpQuiet P ops C Q rest a):wpQuiet P ops C Q (⟨some d,.binOp .leq t1 X Y t2,ty,pos,af,none⟩::rest) a:=
 O9 b c g hd (λw=>by simp [binOp,Op.intCmp]) k
def xC (b:Fr n a m) (c:B4 m X=some (.int kd x)) (g:B4 m Y=some (.int kd y)) (hd:Nat.blt d n.1=true)
  (k:∀a,Fr n a ((d,.bool (decide (y<x)))::m)→wpQuiet P ops C Q rest a):wpQuiet P ops C Q (⟨some d,.binOp .gtr t1 X Y t2,ty,pos,af,none⟩::rest) a:=
 O9 b c g hd (λw=>by simp [binOp,Op.intCmp]) k
def xD (b:Fr n a m) (c:B4 m X=some (.int kd x)) (g:B4 m Y=some (.int kd y)) (hd:Nat.blt d n.1=true)
  (k:∀a,Fr n a ((d,.bool (decide (y≤x)))::m)→wpQuiet P ops C Q rest a):wpQuiet P ops C Q (⟨some d,.binOp .geq t1 X Y t2,ty,pos,af,none⟩::rest) a:=
 O9 b c g hd (λw=>by simp [binOp,Op.intCmp]) k
def xF (b:Fr n a m) (c:B4 m X=some (.int kd x)) (g:B4 m Y=some (.int kd y)) (hd:Nat.blt d n.1=true)
  (k:∀a,Fr n a ((d,.bool (decide (x=y)))::m)→wpQuiet P ops C Q rest a):wpQuiet P ops C Q (⟨some d,.binOp .eql t1 X Y t2,ty,pos,af,none⟩::rest) a:=
 O9 b c g hd (λw=>by simp [binOp,Op.intCmp,Po]) k
def wP (b:Fr n a m) (c:B4 m X=some (.int kd x)) (g:B4 m Y=some (.int kd y)) (hd:Nat.blt d n.1=true)
  (k:∀a,Fr n a ((d,.bool (decide (x≠y)))::m)→wpQuiet P ops C Q rest a):wpQuiet P ops C Q (⟨some d,.binOp .neq t1 X Y t2,ty,pos,af,none⟩::rest) a:=
 O9 b c g hd (λw=>by simp [binOp,Op.intCmp,bne,Po]) k
end ints
def wN {X t1 b}(c:Fr n a m) (g:B4 m X=some (.bool b)) (hd:Nat.blt d n.1=true)
  (k:∀a,Fr n a ((d,.bool (!b))::m)→wpQuiet P ops C Q rest a):wpQuiet P ops C Q (⟨some d,.unOp .not t1 X,ty,pos,af,none⟩::rest) a:=
 GI c hd (λw _=>by simp [execOp,c.eval g,Op.unary]) k
section loads
variable {A S:Nat→Prop}{L:List HP}{h:AS}{X:Operand}{p:Value}{t:TypeId}
def nQ {cs:List Value}{sz:Nat}{ag:Bool}(g:CK C h) (i:∀b,A b→b<h.size) (c:Fr n a m) (j:B4 m X=some p) (k0:N8 A h p cs) (l:cs.length=sz) (o:Kh P t sz ag=true) (q:ag=false→sz=1) (hd:Nat.blt d n.1=true)
  (k:∀a,Fr n a ((d,if ag then .agg cs.toArray else cs.headD undef)::m)→wpQuiet P ops C Q rest a):wpQuiet P ops C Q (⟨some d,.load t X,ty,pos,af,none⟩::rest) a:=by
 refine GI c hd (λw s=>?_) k;have:=NC (P:=P) (w:=w) (k0.mono (λ_ x=>x) λb u=>g w s b (i b u)) l o q;simp [execOp,c.eval j,this]
def cX {α}{r:A5 α}{x}(i:CK C h) (j:∀b,A b→b<h.size) (l:Fr n a m) (o:B4 m X=some p) (k0:NX A S h r p x) (q:Kh P t r.sz r.ag=true) (s:r.ag=false→r.sz=1) (hd:Nat.blt d n.1=true)
  (k:∀v a,Fr n a ((d,v)::m)→Rd S h r v x→wpQuiet P ops C Q rest a):wpQuiet P ops C Q (⟨some d,.load t X,ty,pos,af,none⟩::rest) a:=by
 obtain⟨cs,u,g⟩:=k0;exact nQ i j l o u (r.len g) q s hd λw c=>k _ w c ⟨cs,rfl,g⟩
def xA {x}(g:CK C h) (i:∀b,A b→b<h.size) (j:Fr n a m) (l:B4 m X=some p) (k0:NX A S h AB p x) (o:Kh P t 1 false=true) (hd:Nat.blt d n.1=true)
  (k:∀a,Fr n a ((d,.int .i64 x)::m)→AA x→wpQuiet P ops C Q rest a):wpQuiet P ops C Q (⟨some d,.load t X,ty,pos,af,none⟩::rest) a:=
 cX g i j l k0 o (λ_=>rfl) hd λv q c s=>by obtain⟨rfl,u⟩:=s.int;exact k q c u
def xB {x}(g:CK C h) (i:∀b,A b→b<h.size) (j:Fr n a m) (l:B4 m X=some p) (k0:NX A S h A5.bool p x) (o:Kh P t 1 false=true) (hd:Nat.blt d n.1=true)
  (k:∀a,Fr n a ((d,.bool x)::m)→wpQuiet P ops C Q rest a):wpQuiet P ops C Q (⟨some d,.load t X,ty,pos,af,none⟩::rest) a:=
 cX g i j l k0 o (λ_=>rfl) hd λv q c s=>by obtain rfl:=s.bool;exact k q c
def wX {x}(g:CK C h) (i:∀b,A b→b<h.size) (j:Fr n a m) (l:B4 m X=some p) (k0:NX A S h A5.str p x) (o:Kh P t 1 false=true) (hd:Nat.blt d n.1=true)
  (k:∀a,Fr n a ((d,.string x)::m)→x.size≤maxLen→wpQuiet P ops C Q rest a):wpQuiet P ops C Q (⟨some d,.load t X,ty,pos,af,none⟩::rest) a:=
 cX g i j l k0 o (λ_=>rfl) hd λv q c s=>by obtain⟨rfl,u⟩:=s.str;exact k q c u
def wZ {α}{r:A5 α}{x}(g:CK C h) (i:∀b,A b→b<h.size) (j:Fr n a m) (l:B4 m X=some p) (k0:NX A S h r.sl p x) (o:Kh P t 1 false=true) (hd:Nat.blt d n.1=true)
  (k:∀v a,Fr n a ((d,v)::m)→Sl S h r v x→wpQuiet P ops C Q rest a):wpQuiet P ops C Q (⟨some d,.load t X,ty,pos,af,none⟩::rest) a:=
 cX g i j l k0 o (λ_=>rfl) hd λv q c s=>k v q c s.sl
def Aa2 {α β}{r:A5 α}{r':A5 β}{f:α→β}{j off x}(c:Fr n a m) (g:B4 m X=some p) (k0:NX A S h r p x) (i:FZ r off r' f) (l:aA P t j off=true) (hd:Nat.blt d n.1=true)
  (k:∀q a,Fr n a ((d,q)::m)→NX A S h r' q (f x)→wpQuiet P ops C Q rest a):wpQuiet P ops C Q (⟨some d,.fieldAddr t X j,ty,pos,af,none⟩::rest) a:=by
 obtain⟨u,rfl,o⟩:=k0.fld i;exact GI c hd (λw _=>by simp [execOp,c.eval g,MN l]) λs b=>k _ s b o
def xE {b o j off}(g:Fr n a m) (i:B4 m X=some (.pointer (some ⟨b,o,none⟩))) (l:aA P t j off=true) (hd:Nat.blt d n.1=true)
  (k:∀a,Fr n a ((d,.pointer (some ⟨b,o+off,none⟩))::m)→wpQuiet P ops C Q rest a):wpQuiet P ops C Q (⟨some d,.fieldAddr t X j,ty,pos,af,none⟩::rest) a:=by
 have c:(⟨b,o,none⟩:Addr).add off=⟨b,o+off,none⟩:=by unfold Addr.add;split<;>simp_all
 exact GI g hd (λw _=>by simp [execOp,g.eval i,MN l,c]) k
def Sl.at_ {α}{r:A5 α}{v:Value}{l:List α}(k0:Sl S h r v l) {i:Nat}{x:α}(d:l[i]? =some x):
  ∃(a:Addr) (cap:Nat),v= .slice (some a) l.length cap∧Pt S h r (.pointer (some (a.add (i*r.sz)))) x:=by
 rcases k0 with ⟨rfl,rfl⟩|⟨a,cap,h1,h4,h5,h6⟩
 ·simp at d
 ·refine⟨a,cap,h1,?_⟩;obtain⟨g,this⟩:=h6 i x d;obtain⟨b,o,s⟩:=a;simp only at g;subst g;have c:(⟨b,o,none⟩:Addr).add (i*r.sz)=⟨b,o+i*r.sz,none⟩:=by unfold Addr.add;split<;>simp_all
  rw[c];exact this
def Aaz {α}{r:A5 α}{l:List α}{e i x Y v}(b:Fr n a m) (j:B4 m X=some v) (o:B4 m Y=some (.int .i64 i)) (k0:Sl S h r v l) (p:O3 P t e r.sz=true) (h0:0≤i) (g:l[i.toNat]? =some x) (hd:Nat.blt d n.1=true)
  (k:∀q a,Fr n a ((d,q)::m)→Pt S h r q x→wpQuiet P ops C Q rest a):wpQuiet P ops C Q (⟨some d,.indexAddr t X Y,ty,pos,af,none⟩::rest) a:=by
 obtain⟨s,cap,rfl,u⟩:=k0.at_ g;have y:i.toNat<l.length:=(Acq.1 g).1;exact GI b hd (λw _=>by simp [execOp,b.eval j,b.eval o,MM (P:=P) (w:=w) (cap:=cap) (a:=s) p h0 y]) λz c=>k _ z c u
def wW {α}{r:A5 α}{l:List α}{v aty e}(c:Fr n a m) (g:B4 m X=some v) (k0:Sl S h r v l) (j:O3 P t e r.sz=true) (hd:Nat.blt d n.1=true)
  (k:∀a,Fr n a ((d,.int .i64 l.length)::m)→l.length≤maxLen→wpQuiet P ops C Q rest a):wpQuiet P ops C Q (⟨some d,.call ⟨.builtin .len,#[X],#[t]⟩,aty,pos,af,none⟩::rest) a:=by
 obtain⟨s,cap,rfl,o⟩:=k0.len;obtain⟨i,p,_⟩:=ML j;exact GI c hd (λw _=>by simp [execOp,resolve,invoke,builtin,Builtin.len_,c.eval g,run_underlying p,goInt]) λq b=>k q b o
def rA {ad len cap aty e sz}(b:Fr n a m) (c:B4 m X=some (.slice ad len cap)) (g:O3 P t e sz=true) (hd:Nat.blt d n.1=true)
  (k:∀a,Fr n a ((d,.int .i64 len)::m)→wpQuiet P ops C Q rest a):wpQuiet P ops C Q (⟨some d,.call ⟨.builtin .len,#[X],#[t]⟩,aty,pos,af,none⟩::rest) a:=by
 obtain⟨i,j,_⟩:=ML g;exact GI b hd (λw _=>by simp [execOp,resolve,invoke,builtin,Builtin.len_,b.eval c,run_underlying j,goInt]) k
end loads
def wT {X Y t1 t2 x y aty kd}(b:Fr n a m) (c:B4 m X=some (.int kd x)) (g:B4 m Y=some (.int kd y)) (hd:Nat.blt d n.1=true)
  (k:∀a,Fr n a ((d,.int kd (max x y))::m)→wpQuiet P ops C Q rest a):wpQuiet P ops C Q (⟨some d,.call ⟨.builtin .max,#[X,Y],#[t1,t2]⟩,aty,pos,af,none⟩::rest) a:=
 GI b hd (λw _=>by
  have:(if y>x then y else x)=max x y:=by rw[Int.max_def];split<;>split<;>omega
  simp [execOp,resolve,invoke,builtin,Builtin.max_,Builtin.max2,b.eval c,b.eval g,this]) k
def wR {X Y t1 t2 x y aty kd}(b:Fr n a m) (c:B4 m X=some (.int kd x)) (g:B4 m Y=some (.int kd y)) (hd:Nat.blt d n.1=true)
  (k:∀a,Fr n a ((d,.int kd (min x y))::m)→wpQuiet P ops C Q rest a):wpQuiet P ops C Q (⟨some d,.call ⟨.builtin .min,#[X,Y],#[t1,t2]⟩,aty,pos,af,none⟩::rest) a:=
 GI b hd (λw _=>by
  have:(if y<x then y else x)=min x y:=by rw[Int.min_def];split<;>split<;>omega
  simp [execOp,resolve,invoke,builtin,Builtin.min_,Builtin.min2,b.eval c,b.eval g,this]) k
end
end Go.Proofs.YtabonambpbofgaaGreat
