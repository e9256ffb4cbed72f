import Derived.WalkKit
import Derived.WalkSpells
import Derived.WalkLawsBesides
import Derived.Deep.QuietTactic
import Derived.KernelRfl
namespace Go.Proofs.YtedgiljmffngoaaGreat
set_option linter.all false
theorem O {α:Sort _} {a:α}:a=a:=rfl
def gB:=@congrArg
def gC:=@Option.some.inj
def gE:=@List.all_eq_true
def gG:=@Bool.and_eq_true
def gH:=@Nat.eq_of_beq_eq_true
def gI:=@List.contains_iff_mem
def gJ:=@Nat.lt_of_lt_of_le
def gK:=@List.mem_cons
def gL:=@if_neg
def gM:=@Eq.trans
def gN:=@Nat.le_refl
def gO:=@if_pos
def gP:=@List.mem_range
def gQ:=@List.nil_append
def gR:=@Array.getElem?_eq_some_iff
def gS:=@Bool.not_eq_true'
def gT:=@Bool.or_eq_true
def gU:=@cond_false
def gV:=@List.not_mem_nil
def gW:=@Option.bind_some
def gY:=@List.mem_cons_self
def gZ:=@List.cons_append
def hE:=@List.mem_cons_of_mem
def hJ:=@List.getElem?_eq_some_iff
def hM:=@Nat.zero_add
def hO:=@decide_eq_true_eq
def hP:=@List.length_append
def hU:=@or_false
def hY:=@Option.some.injEq
def iA:=@Array.getElem?_setIfInBounds
def iB:=@false_or
def iC:=@cond_true
def iD:=@List.append_nil
def iE:=@Array.getD_eq_getD_getElem?
def iF:=@List.map_cons
def iG:=@List.getElem?_take_of_lt
def iH:=@Option.map_eq_some_iff
def iI:=@Option.getD_some
def iJ:=@List.mem_map
def iK:=@Nat.le_trans
def iL:=@List.length_take
def iM:=@Iff.rfl
def iN:=@Bool.false_or
def iO:=@Nat.mul_one
def iP:=@Bool.not_true
def iQ:=@List.mem_filter
def iR:=@Bool.false_eq_true
def iS:=@if_false
def iT:=@Nat.succ_mul
def iU:=@Option.map_some
def iV:=@Array.all_eq_true_iff_forall_mem
def iW:=@List.length_drop
def iX:=@List.getElem?_cons_succ
def iY:=@List.nodup_cons
def iZ:=@Option.bind_eq_some_iff
def jA:=@List.length_cons
def jB:=@List.getElem?_cons_zero
def jC:=@List.drop_eq_nil_of_le
def jD:=@Array.getElem?_eq_getElem
def jE:=@Nat.le_of_ble_eq_true
def jF:=@Prod.mk.injEq
def jG:=@Nat.mul_le_mul_right
def jH:=@Nat.zero_le
def jI:=@List.mem_append
def jJ:=@List.take_left
def jK:=@Nat.add_mul
def jL:=@Nat.lt_or_ge
def jM:=@List.map_append
def jN:=@List.getElem?_drop
def jO:=@List.mapM_cons
def jP:=@List.take_succ_eq_append_getElem
def jQ:=@Option.isSome_none
def jR:=@List.getElem?_eq_none
def jS:=@List.size_toArray
def jT:=@List.take_length
def jU:=@Classical.byContradiction
def jV:=@List.mem_append_left
def jW:=@List.eq_nil_of_length_eq_zero
def jX:=@List.drop_eq_getElem_cons
def jY:=@Array.toList_replicate
def jZ:=@List.map_congr_left
def kA:=@Int.eq_ofNat_of_zero_le
def kB:=@List.getElem_mem
def kC:=@Option.bind_eq_bind
def kD:=@Array.length_toList
def kE:=@List.getElem?_eq_getElem
def kF:=@Nat.lt_or_eq_of_le
def kG:=@List.mem_singleton
def kH:=@List.mem_filterMap
def kI:=@List.mem_iff_getElem?
def kJ:=@List.getElem?_zipIdx
def kK:=@List.getElem?_zip_eq_some
def kL:=@Array.getElem?_append_left
def kM:=@Array.getElem?_setIfInBounds_ne
open Go.RowKit
abbrev AT:=Array Obj
def lk:List (Nat×Value)→Nat→Option Value
 |[],_=>none
 |(i,v)::r,j=>cond (Nat.beq i j) (some v) (lk r j)
abbrev FN:=Nat×List Deferred
structure Fr (n:FN) (a:Act) (m:List (Nat×Value)):Prop where
 dfr:a.defers=n.2
 siz:a.tmps.size=n.1
 at_:∀i v,lk m i=some v→a.tmps[i]? =some v
def BU (m:List (Nat×Value)):Operand→Option Value
 | .tmp t=>lk m t
 | .const v=>some v
 | .global g=>some (.pointer (some ⟨g,0,none⟩))
 | .func f=>some (.func (.func f) #[] #[])
def Fr.eval {n a m X v}(c:Fr n a m) (b:BU m X=some v):a.eval X=v:=by
 cases X with
 |tmp t=>
  have:=c.at_ t v b;simp [Act.eval,iE,this]
 |const d=>simpa [BU,Act.eval] using b
 |global g=>simpa [BU,Act.eval] using b
 |func f=>simpa [BU,Act.eval] using b
def Fr.put {n a m d}(j:Fr n a m) (hd:Nat.blt d n.1=true) (v:Value):Fr n (a.put (some d) v) ((d,v)::m):=by
 have c:d<n.1:=(by simpa [Nat.blt] using hd:d+1≤n.1)
 refine⟨by simpa [Act.put] using j.dfr,by simpa [Act.put] using j.siz,λi k b=>?_⟩;simp only[Act.put,iA];simp only[lk] at b;by_cases e:d=i
 ·subst e;have:Nat.beq d d=true:=by simp
  rw[this] at b;simp only[iC,hY] at b;subst b;simp [j.siz,c]
 ·have:Nat.beq d i=false:=by
   cases g:Nat.beq d i with
   |false=>rfl
   |true=>exact absurd (gH g) e
  rw[this] at b;simp only[gU] at b;rw[gL e];exact j.at_ i k b
def RE (m:List (Nat×Value)):List (Nat×Value)→Prop
 |[]=>True
 |e::r=>lk m e.1=some e.2∧RE m r
def Fr.sub {n a m m'}(k:Fr n a m) (d:RE m m'):Fr n a m':=by
 refine⟨k.dfr,k.siz,λi v b=>k.at_ i v ?_⟩
 induction m' with
 |nil=>simp [lk] at b
 |cons e r g=>
  obtain⟨j,l⟩:=e;simp only[lk] at b;cases c:Nat.beq j i with
  |true=>
   rw[c] at b;simp only[iC,hY] at b;have:=gH c;subst this;subst b;exact d.1
  |false=>
   rw[c] at b;simp only[gU] at b;exact g d.2 b
def Gk (b:AT) (a:Addr):Option Value:=
 match b[a.block]? with
 |some (.cells c _ _)=>if a.spot.isSome then none else c[a.off]?
 |_=>none
def Hl (w:World) (a:Addr):w.cell? a=Gk w.heap a:=rfl
structure Wd (B:World) (h:AT) (w:World):Prop where
 heap:w.heap=h
 os:w.os=B.os
 tape:w.tape=B.tape
 out:w.output=B.output
structure B6 (S:Nat→Prop) (h:AT) (S':Nat→Prop) (h':AT):Prop where
 sub:∀b,S b→S' b
 same:∀b,S b→h'[b]? =h[b]?
 siz:h.size≤h'.size
def B6.refl (S:Nat→Prop) (a:AT):B6 S a S a:=⟨λ_ x=>x,λ_ _=>rfl,gN _⟩
def B6.trans {S h S' h' S'' h''}(x:B6 S h S' h') (y:B6 S' h' S'' h''):B6 S h S'' h'':=
 ⟨λb a=>y.sub b (x.sub b a),λb a=>(y.same b (x.sub b a)).trans (x.same b a),iK x.siz y.siz⟩
def OH {b h':AT}{a:Addr}(e:h'[a.block]? =b[a.block]?):Gk h' a=Gk b a:=by simp [Gk,e]
structure HP where
 holds:(Nat→Prop)→(Nat→Prop)→AT→Prop
 loc:∀{S S' F h h'},holds S F h→(∀b,S b→S' b)→(∀b,S b∨F b→h'[b]? =h[b]?)→holds S' F h'
def Sp (S:Nat→Prop):List HP→AT→(Nat→Prop)→Prop
 |[],_,_=>True
 |H::L,a,A=>∃F,H.holds S F a∧(∀b,F b→A b)∧Sp S L a (λb=>A b∧¬F b)
def St (S:Nat→Prop) (L:List HP) (a:AT):Prop:=(∀b,S b→b<a.size)∧Sp S L a (λb=>b<a.size∧¬S b)
def Sp.mono {S:Nat→Prop}{L h}:∀{A c:Nat→Prop},Sp S L h A→(∀b,A b→c b)→Sp S L h c:=by
 induction L with
 |nil=>intros;trivial
 |cons H L g=>
  rintro A c ⟨F,i,j,k⟩ d;exact⟨F,i,λb a=>d b (j b a),g k λb a=>⟨d b a.1,a.2⟩⟩
def Sp.ext {S S':Nat→Prop}{L h h'}:∀{A c:Nat→Prop},Sp S L h A→(∀b,S b→S' b)→(∀b,S b∨A b→h'[b]? =h[b]?)→(∀b,A b→c b)→Sp S' L h' c:=by
 induction L with
 |nil=>intros;trivial
 |cons H L k=>
  rintro A c ⟨F,l,d,m⟩ g i j;refine⟨F,H.loc l g λb a=>i b (a.imp_right (d b)),λb a=>j b (d b a),?_⟩;exact k m g (λb a=>i b (a.imp_right (·.1))) λb a=>⟨j b a.1,a.2⟩
inductive Lb:List HP→HP→HP→List HP→Prop
 |head {L H H'}:Lb (H::L) H H' (H'::L)
 |tail {K L H H' L2}:Lb L H H' L2→Lb (K::L) H H' (K::L2)
inductive OA:List HP→HP→List HP→Prop
 |head {L H}:OA (H::L) H L
 |tail {K L H L2}:OA L H L2→OA (K::L) H (K::L2)
def Sp.pick {S:Nat→Prop}{h}{L c:List HP}{H:HP}(p:OA L H c):∀{A:Nat→Prop},Sp S L h A→Sp S (H::c) h A:=by
 induction p with
 |head=>exact id
 |tail p g=>
  rintro A ⟨F,i,j,k⟩;obtain⟨G,l,d,m⟩:=g k;refine⟨G,l,λb a=>(d b a).1,F,i,λb a=>⟨j b a,λn=>(d b n).2 a⟩,m.mono λb a=>⟨⟨a.1.1,a.2⟩,a.1.2⟩⟩
def LD {S:Nat→Prop}{h}{L c:List HP}{H:HP}(p:OA L H c):∀{A:Nat→Prop},Sp S (H::c) h A→Sp S L h A:=by
 induction p with
 |head=>exact id
 |tail p g=>
  rintro A ⟨G,i,j,F,k,d,l⟩;refine⟨F,k,λb a=>(d b a).1,g ⟨G,i,λb a=>⟨j b a,λm=>(d b m).2 a⟩,l.mono λb a=>⟨⟨a.1.1,a.2⟩,a.1.2⟩⟩⟩
def Lb.pick {L H H' L2}(r:Lb L H H' L2):∃M,OA L H M∧OA L2 H' M:=by
 induction r with
 |head=>exact⟨_,.head,.head⟩
 |tail r a=>obtain⟨M,p,q⟩:=a;exact⟨_,.tail p,.tail q⟩
def Sp.get {S:Nat→Prop}{h}{L:List HP}{H:HP}{A:Nat→Prop}(a:H∈L) (c:Sp S L h A):∃F,H.holds S F h∧∀b,F b→A b:=by
 induction L generalizing A with
 |nil=>cases a
 |cons K L d=>
  obtain⟨F,g,i,j⟩:=c;cases a with
  |head=>exact⟨F,g,i⟩
  |tail _ a=>obtain⟨G,k,l⟩:=d a j;exact⟨G,k,λb m=>(l b m).1⟩
def St.get {S L h H}(a:St S L h) (c:H∈L):∃F,H.holds S F h∧∀b,F b→b<h.size∧¬S b:=Sp.get c a.2
def St.upd {S L h H H' L2 h'}(d:St S L h) (r:Lb L H H' L2) (g:h.size≤h'.size)
  (k:∀F,H.holds S F h→(∀b,F b→b<h.size∧¬S b)→∃i,H'.holds S i h'∧(∀b,i b→F b∨(h.size≤b∧b<h'.size))∧∀b,b<h.size→¬F b→h'[b]? =h[b]?):
  St S L2 h'∧B6 S h S h':=by
 obtain⟨M,p,q⟩:=r.pick;obtain⟨F,t,j,u⟩:=Sp.pick p d.2;obtain⟨i,v,n,o⟩:=k F t j;have s:∀b,S b→h'[b]? =h[b]? :=λb a=>o b (d.1 b a) λc=>(j b c).2 a;refine⟨⟨λb a=>gJ (d.1 b a) g,?_⟩,λ_ x=>x,s,g⟩;refine LD q ⟨i,v,λb a=>?_,?_⟩
 ·rcases n b a with c|⟨hl,hu⟩
  ·exact⟨gJ (j b c).1 g,(j b c).2⟩
  ·exact⟨hu,λl=>absurd (d.1 b l) (by omega)⟩
 ·refine Sp.ext u (λ_ x=>x) (λb a=>?_) λb a=>⟨⟨gJ a.1.1 g,a.1.2⟩,λm=>?_⟩
  ·rcases a with a|a
   ·exact s b a
   ·exact o b a.1.1 a.2
  ·rcases n b m with c|⟨hl,_⟩
   ·exact a.2 c
   ·exact absurd a.1.1 (by omega)
def St.add {S L h H' h'}(c:St S L h) (g:h.size≤h'.size) (l:∀b,b<h.size→h'[b]? =h[b]?)
  (k:∃d,H'.holds S d h'∧∀b,d b→h.size≤b∧b<h'.size):St S (H'::L) h'∧B6 S h S h':=by
 obtain⟨d,m,i⟩:=k;refine⟨⟨λb a=>gJ (c.1 b a) g,d,m,λb a=>⟨(i b a).2,λj=>absurd (c.1 b j) (by have:=(i b a).1;omega)⟩,?_⟩,λ_ x=>x,λb a=>l b (c.1 b a),g⟩;refine Sp.ext c.2 (λ_ x=>x) (λb a=>l b (a.elim (c.1 b) (·.1))) λb a=>⟨⟨gJ a.1 g,a.2⟩,λn=>absurd a.1 (by have:=(i b n).1;omega)⟩
def St.pub {S L k H L2}(c:St S L k) (p:OA L H L2):∃F,H.holds S F k∧(∀b,F b→b<k.size∧¬S b)∧St (λb=>S b∨F b) L2 k∧B6 S k (λb=>S b∨F b) k:=by
 obtain⟨F,g,d,i⟩:=Sp.pick p c.2;refine⟨F,g,d,⟨λb a=>a.elim (c.1 b) λj=>(d b j).1,?_⟩,λ_ x=> .inl x,λ_ _=>rfl,gN _⟩;exact Sp.ext i (λ_ x=> .inl x) (λ_ _=>rfl) λb a=>⟨a.1.1,λk=>k.elim a.1.2 a.2⟩
def St.drop {S L h H L2}(a:St S L h) (p:OA L H L2):St S L2 h:=by
 obtain⟨F,g,i,c⟩:=Sp.pick p a.2;exact⟨a.1,c.mono λb d=>d.1⟩
structure BB (α:Type) where
 sz:Nat
 ag:Bool
 rd:(Nat→Prop)→AT→List Value→α→Prop
 len:∀{S h cs x},rd S h cs x→cs.length=sz
 one:∀{S h cs x},rd S h cs x→∀v∈cs,v.oneCell'=true
 mono:∀{S S' h h' cs x},rd S h cs x→(∀b,S b→S' b)→(∀b,S b→h'[b]? =h[b]?)→rd S' h' cs x
def BB.val {α}(r:BB α) (cs:List Value):Value:=if r.ag then .agg cs.toArray else cs.headD undef
def Rd {α}(S:Nat→Prop) (a:AT) (r:BB α) (v:Value) (x:α):Prop:=∃cs,v=r.val cs∧r.rd S a cs x
def Rd.mono {α S h S' h'}{r:BB α}{v x}(k:Rd S h r v x) (e:B6 S h S' h'):Rd S' h' r v x:=
 let ⟨cs,a,b⟩:=k;⟨cs,a,r.mono b e.sub e.same⟩
def M1 (S:Nat→Prop) (b:AT) (p:Value) (cs:List Value):Prop:=
 ∃a:Addr,p= .pointer (some a)∧a.spot=none∧S a.block∧∀j,j<cs.length→Gk b ⟨a.block,a.off+j,none⟩=cs[j]?
def M1.mono {S h S' h' p cs}(k:M1 S h p cs) (s:∀b,S b→S' b) (e:∀b,S b→h'[b]? =h[b]?):M1 S' h' p cs:=
 let ⟨a,d,g,c,i⟩:=k;⟨a,d,g,s _ c,λj l=>(OH (a:=⟨a.block,a.off+j,none⟩) (e _ c)).trans (i j l)⟩
def K4 {α}(A S:Nat→Prop) (a:AT) (r:BB α) (p:Value) (x:α):Prop:=∃cs,M1 A a p cs∧r.rd S a cs x
abbrev Pt {α}(S:Nat→Prop) (a:AT) (r:BB α) (p:Value) (x:α):Prop:=K4 S S a r p x
def K4.mono {α S h S' h'}{r:BB α}{p x}(k:Pt S h r p x) (e:B6 S h S' h'):Pt S' h' r p x:=
 let ⟨cs,a,b⟩:=k;⟨cs,a.mono e.sub e.same,r.mono b e.sub e.same⟩
def AA (n:Int):Prop:= -9223372036854775808≤n∧n≤9223372036854775807
def AB:BB Int where
 sz:=1
 ag:=false
 rd:=λ_ _ cs x=>cs=[.int .i64 x]∧AA x
 len:=λ⟨b,_⟩=>by rw[b];rfl
 one:=λ⟨b,_⟩ v a=>by rw[b] at a;simp at a;rw[a];rfl
 mono:=λb _ _=>b
def BB.bool:BB Bool where
 sz:=1
 ag:=false
 rd:=λ_ _ cs x=>cs=[.bool x]
 len:=λb=>by rw[b];rfl
 one:=λb v a=>by rw[b] at a;simp at a;rw[a];rfl
 mono:=λb _ _=>b
def BB.str:BB ByteArray where
 sz:=1
 ag:=false
 rd:=λ_ _ cs x=>cs=[.string x]∧x.size≤maxLen
 len:=λ⟨b,_⟩=>by rw[b];rfl
 one:=λ⟨b,_⟩ v a=>by rw[b] at a;simp at a;rw[a];rfl
 mono:=λb _ _=>b
def Sl {α}(S:Nat→Prop) (b:AT) (r:BB α) (v:Value) (l:List α):Prop:=
 (v= .slice none 0 0∧l=[])∨
 ∃(a:Addr) (cap:Nat),v= .slice (some a) l.length cap∧l.length≤cap∧cap≤maxLen∧
  ∀i x,l[i]? =some x→a.spot=none∧Pt S b r (.pointer (some ⟨a.block,a.off+i*r.sz,none⟩)) x
def Sl.mono {α S h S' h'}{r:BB α}{v l}(k:Sl S h r v l) (s:∀b,S b→S' b) (e:∀b,S b→h'[b]? =h[b]?):Sl S' h' r v l:=by
 rcases k with k|⟨a,cap,h1,h4,h5,h6⟩
 ·exact .inl k
 ·refine .inr ⟨a,cap,h1,h4,h5,λi x d=>?_⟩;obtain⟨c,cs,g,j⟩:=h6 i x d;exact⟨c,cs,g.mono s e,r.mono j s e⟩
def Sl.len {α S h}{r:BB α}{v l}(k:Sl S h r v l):∃a cap,v= .slice a l.length cap∧l.length≤maxLen:=by
 rcases k with ⟨rfl,rfl⟩|⟨a,cap,h1,h4,h5,h6⟩
 ·exact⟨none,0,rfl,jH _⟩
 ·exact⟨some a,cap,h1,iK h4 h5⟩
def BB.sl {α}(r:BB α):BB (List α) where
 sz:=1
 ag:=false
 rd:=λS d cs l=>∃v,cs=[v]∧Sl S d r v l
 len:=λ⟨_,d,_⟩=>by rw[d];rfl
 one:=λ⟨g,d,k⟩ v b=>by
  rw[d] at b;simp at b;rw[b];rcases k with ⟨rfl,_⟩|⟨a,c,rfl,_⟩<;>rfl
 mono:=λ⟨v,d,k⟩ s e=>⟨v,d,k.mono s e⟩
def Sl.mono' {α S h S' h'}{r:BB α}{v l}(k:Sl S h r v l) (e:B6 S h S' h'):Sl S' h' r v l:=k.mono e.sub e.same
def Rd.int {S a v x}(k:Rd S a AB v x):v= .int .i64 x∧AA x:=by obtain⟨_,rfl,rfl,a⟩:=k;exact⟨rfl,a⟩
def Rd.bool {S h v x}(k:Rd S h BB.bool v x):v= .bool x:=by obtain⟨_,rfl,rfl⟩:=k;rfl
def Rd.str {S a v x}(k:Rd S a BB.str v x):v= .string x∧x.size≤maxLen:=by obtain⟨_,rfl,rfl,a⟩:=k;exact⟨rfl,a⟩
def Rd.sl {α S a v x}{r:BB α}(k:Rd S a r.sl v x):Sl S a r v x:=by obtain⟨_,rfl,_,rfl,a⟩:=k;exact a
def Nx {α S h v x}{r:BB α}(k:Sl S h r v x):Rd S h r.sl v x:=⟨[v],rfl,v,rfl,k⟩
def Co {α β}(r:BB α) (o:Nat) (r':BB β) (f:α→β):Prop:=
 ∀{S a cs x},r.rd S a cs x→r'.rd S a ((cs.drop o).take r'.sz) (f x)
def K4.fld {α β A S h}{r:BB α}{r':BB β}{o f p x}(k:K4 A S h r p x) (b:Co r o r' f):
  ∃a:Addr,p= .pointer (some a)∧K4 A S h r' (.pointer (some (a.add o))) (f x):=by
 obtain⟨cs,⟨a,rfl,c,d,g⟩,i⟩:=k;refine⟨a,rfl,_,⟨a.add o,rfl,?_,?_,?_⟩,b i⟩
 ·unfold Addr.add;split<;>simp [c]
 ·unfold Addr.add;split<;>exact d
 ·intro j l;have m:(a.add o).block=a.block:=by unfold Addr.add;split<;>rfl
  have n:(a.add o).off=a.off+o:=by unfold Addr.add;split<;>simp_all
  rw[m,n];simp only[iL,iW] at l;have:=g (o+j) (by omega);rw[Nat.add_assoc,this,iG (by omega),jN]
end Go.Proofs.YtedgiljmffngoaaGreat
