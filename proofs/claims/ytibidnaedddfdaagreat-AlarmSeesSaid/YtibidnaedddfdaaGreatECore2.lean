import Derived.WalkKit
import Derived.WalkSpells
import Derived.WalkLawsBesides
import Derived.Deep.QuietTactic
import Derived.KernelRfl
namespace Go.Proofs.YtibidnaedddfdaaGreat
set_option linter.all false
theorem O {α:Sort _} {a:α}:a=a:=rfl
def uF:=@Option.bind_some
def uG:=@cond_true
def uH:=@cond_false
def uI:=@if_neg
def uJ:=@if_pos
def uK:=@decide_eq_true
def uL:=@Bool.and_eq_true
def uM:=@decide_eq_false
def uN:=@List.cons.inj
def uO:=@Nat.zero_le
def uP:=@congrArg
def uQ:=@List.all_eq_true
def uR:=@Nat.eq_of_beq_eq_true
def uS:=@List.mem_cons
def uT:=@List.contains_iff_mem
def uU:=@List.getElem?_eq_getElem
def uV:=@List.getElem?_eq_some_iff
def uW:=@Nat.le_refl
def uX:=@Option.some.inj
def uY:=@decide_eq_true_eq
def uZ:=@Bool.or_eq_true
def vA:=@List.getElem_mem
def vB:=@Nat.lt_of_lt_of_le
def vC:=@decide_eq_false_iff_not
def vD:=@List.not_mem_nil
def vE:=@Bool.not_eq_true'
def vF:=@List.mem_range
def vG:=@Nat.lt_or_ge
def vH:=@Bool.or_eq_false_iff
def vJ:=@Array.getElem?_eq_some_iff
def vK:=@or_false
def vL:=@Bool.not_true
def vM:=@Option.getD_some
def vO:=@Nat.zero_add
def vQ:=@List.length_map
def vR:=@List.append_nil
def vT:=@Int.mul_le_mul_of_nonneg_right
def vU:=@Option.some.injEq
def vV:=@List.length_take
def vW:=@List.mem_cons_self
def vX:=@List.mem_cons_of_mem
def vY:=@List.mem_iff_getElem?
def vZ:=@Int.le_refl
def wA:=@List.map_cons
def wB:=@List.nil_append
def wC:=@List.length_append
def wD:=@List.getD_eq_getElem?_getD
def wE:=@Array.getElem?_setIfInBounds
def wF:=@List.mem_append
def wG:=@List.getElem?_eq_none
def wH:=@Bool.false_or
def wI:=@List.mem_singleton
def wJ:=@Nat.add_mul
def wK:=@false_or
def wL:=@Array.getD_eq_getD_getElem?
def wM:=@Nat.mul_le_mul_right
def wN:=@List.mem_map
def wO:=@List.mem_of_getElem?
def wP:=@Nat.le_trans
def wQ:=@List.take_length
def wR:=@Nat.mod_lt
def wS:=@Bool.false_eq_true
def wT:=@Int.le_trans
def wU:=@List.getElem?_take_of_lt
def wV:=@Option.map_eq_some_iff
def wW:=@Bool.true_and
def wX:=@List.getElem?_drop
def wY:=@Nat.succ_mul
def wZ:=@List.cons_append
def xA:=@Int.mul_le_mul_of_nonneg_left
def xB:=@Bool.and_self
def xC:=@List.length_drop
def xD:=@Bool.not_eq_false'
def xE:=@List.append_assoc
def xF:=@List.mem_iff_getElem
def xG:=@List.getElem?_map
def xH:=@List.mem_append_left
def xI:=@of_decide_eq_true
def xJ:=@Bool.false_and
def xK:=@Option.bind_eq_some_iff
def xL:=@List.getElem?_cons_succ
def xM:=@Option.map_some
def xN:=@Array.all_eq_true_iff_forall_mem
def xO:=@Classical.byContradiction
def xP:=@Int.mul_comm
def xQ:=@Bool.not_eq_true
def xR:=@List.getElem?_cons_zero
def xS:=@Nat.mod_eq_of_lt
def xT:=@Int.toNat_natCast
def xU:=@List.drop_eq_nil_of_le
def xV:=@Int.natCast_mul
def xW:=@List.mem_filter
def xX:=@List.map_append
def xY:=@List.mem_filterMap
def xZ:=@List.getElem?_take
def yA:=@of_decide_eq_false
def yB:=@Nat.le_of_lt_succ
def yC:=@Int.mul_nonneg
def yD:=@List.getElem?_set_ne
def yE:=@Array.getElem?_eq_getElem
def yF:=@Nat.le_of_ble_eq_true
def yG:=@List.length_range
def yH:=@Nat.mul_comm
def yI:=@List.drop_eq_getElem_cons
def yJ:=@List.take_take
def yK:=@List.take_append_drop
def yL:=@List.length_set
def yM:=@List.take_of_length_le
def yN:=@List.getElem?_set_self
def yO:=@List.nodup_cons
def yP:=@List.mapM_cons
def yQ:=@List.take_succ_eq_append_getElem
def yR:=@Prod.mk.injEq
def yS:=@List.take_left
def yT:=@List.getElem?_range
def yU:=@List.length_nil
def yV:=@Nat.two_pow_pos
def yW:=@Nat.add_sub_cancel
def yX:=@Nat.div_add_mod
def yY:=@Nat.mul_le_mul
def yZ:=@List.sum_append
def zA:=@List.sum_cons
def zB:=@List.pairwise_iff_getElem
def zC:=@Option.bind_fun_some
def zD:=@List.take_append_of_le_length
def zE:=@List.ext_getElem?
def zF:=@List.size_toArray
def zG:=@Nat.lt_or_eq_of_le
def zH:=@Array.toList_replicate
def zI:=@BitVec.ofInt_natCast
def zJ:=@BitVec.toNat_ofNat
def zK:=@Nat.lt_of_le_of_lt
def zL:=@Nat.eq_zero_or_pos
def zM:=@List.mem_of_mem_take
def zN:=@List.mem_of_mem_drop
def zO:=@Bool.and_eq_false_iff
def zP:=@Option.bind_eq_bind
def zQ:=@List.getElem?_zipIdx
def zR:=@List.getElem?_zip_eq_some
def zT:=@List.mem_append_right
def zU:=@Nat.div_lt_iff_lt_mul
def zV:=@Int.ediv_le_of_le_mul
def zW:=@Int.emod_lt_of_pos
def zX:=@List.eq_nil_of_length_eq_zero
open Go.RowKit
abbrev AX:=Array Obj
def lk:List (Nat×Value)→Nat→Option Value
 |[],_=>none
 |(i,v)::r,j=>cond (Nat.beq i j) (some v) (lk r j)
abbrev FN:=Nat×List Deferred
structure Fr (n:FN) (a:Act) (m:List (Nat×Value)):Prop where
 dfr:a.defers=n.2
 siz:a.tmps.size=n.1
 at_:∀i v,lk m i=some v→a.tmps[i]? =some v
def CL (m:List (Nat×Value)):Operand→Option Value
 | .tmp t=>lk m t
 | .const v=>some v
 | .global a=>some (.pointer (some ⟨a,0,none⟩))
 | .func f=>some (.func (.func f) #[] #[])
def Fr.eval {n a m X v}(h:Fr n a m) (b:CL m X=some v):a.eval X=v:=by
 cases X with
 |tmp t=>
  have:=h.at_ t v b;simp [Act.eval,wL,this]
 |const u=>simpa [CL,Act.eval] using b
 |global c=>simpa [CL,Act.eval] using b
 |func f=>simpa [CL,Act.eval] using b
def Fr.put {n a m d}(h:Fr n a m) (hd:Nat.blt d n.1=true) (v:Value):Fr n (a.put (some d) v) ((d,v)::m):=by
 have c:d<n.1:=(by simpa [Nat.blt] using hd:d+1≤n.1)
 refine⟨by simpa [Act.put] using h.dfr,by simpa [Act.put] using h.siz,λi u b=>?_⟩;simp only[Act.put,wE];simp only[lk] at b;by_cases e:d=i
 ·subst e;have:Nat.beq d d=true:=by simp
  rw[this] at b;simp only[uG,vU] at b;subst b;simp [h.siz,c]
 ·have:Nat.beq d i=false:=by
   cases g:Nat.beq d i with
   |false=>rfl
   |true=>exact absurd (uR g) e
  rw[this] at b;simp only[uH] at b;rw[uI e];exact h.at_ i u b
def Tk (m:List (Nat×Value)):List (Nat×Value)→Prop
 |[]=>True
 |e::r=>lk m e.1=some e.2∧Tk m r
def Fr.sub {n a m m'}(h:Fr n a m) (d:Tk m m'):Fr n a m':=by
 refine⟨h.dfr,h.siz,λi v b=>h.at_ i v ?_⟩
 induction m' with
 |nil=>simp [lk] at b
 |cons e r g=>
  obtain⟨j,u⟩:=e;simp only[lk] at b;cases c:Nat.beq j i with
  |true=>
   rw[c] at b;simp only[uG,vU] at b;have:=uR c;subst this;subst b;exact d.1
  |false=>
   rw[c] at b;simp only[uH] at b;exact g d.2 b
def JT (h:AX) (a:Addr):Option Value:=
 match h[a.block]? with
 |some (.cells c _ _)=>if a.spot.isSome then none else c[a.off]?
 |_=>none
def LX (w:World) (a:Addr):w.cell? a=JT w.heap a:=rfl
structure Wd (B:World) (h:AX) (w:World):Prop where
 heap:w.heap=h
 os:w.os=B.os
 tape:w.tape=B.tape
 out:w.output=B.output
structure Cc (S:Nat→Prop) (h:AX) (S':Nat→Prop) (h':AX):Prop where
 sub:∀b,S b→S' b
 same:∀b,S b→h'[b]? =h[b]?
 siz:h.size≤h'.size
def Cc.refl (S:Nat→Prop) (h:AX):Cc S h S h:=⟨λ_ x=>x,λ_ _=>rfl,uW _⟩
def Cc.trans {S h S' h' S'' h''}(x:Cc S h S' h') (y:Cc S' h' S'' h''):Cc S h S'' h'':=
 ⟨λb a=>y.sub b (x.sub b a),λb a=>(y.same b (x.sub b a)).trans (x.same b a),wP x.siz y.siz⟩
def To {h h':AX}{a:Addr}(e:h'[a.block]? =h[a.block]?):JT h' a=JT h a:=by simp [JT,e]
structure HP where
 holds:(Nat→Prop)→(Nat→Prop)→AX→Prop
 loc:∀{S S' F h h'},holds S F h→(∀b,S b→S' b)→(∀b,S b∨F b→h'[b]? =h[b]?)→holds S' F h'
def Sp (S:Nat→Prop):List HP→AX→(Nat→Prop)→Prop
 |[],_,_=>True
 |H::L,h,A=>∃F,H.holds S F h∧(∀b,F b→A b)∧Sp S L h (λb=>A b∧¬F b)
def St (S:Nat→Prop) (L:List HP) (h:AX):Prop:=(∀b,S b→b<h.size)∧Sp S L h (λb=>b<h.size∧¬S b)
def Sp.mono {S:Nat→Prop}{L h}:∀{A c:Nat→Prop},Sp S L h A→(∀b,A b→c b)→Sp S L h c:=by
 induction L with
 |nil=>intros;trivial
 |cons H L g=>
  rintro A c ⟨F,i,j,k⟩ d;exact⟨F,i,λb a=>d b (j b a),g k λb a=>⟨d b a.1,a.2⟩⟩
def Sp.ext {S S':Nat→Prop}{L h h'}:∀{A c:Nat→Prop},Sp S L h A→(∀b,S b→S' b)→(∀b,S b∨A b→h'[b]? =h[b]?)→(∀b,A b→c b)→Sp S' L h' c:=by
 induction L with
 |nil=>intros;trivial
 |cons H L k=>
  rintro A c ⟨F,l,d,m⟩ g i j;refine⟨F,H.loc l g λb a=>i b (a.imp_right (d b)),λb a=>j b (d b a),?_⟩;exact k m g (λb a=>i b (a.imp_right (·.1))) λb a=>⟨j b a.1,a.2⟩
inductive Mp:List HP→HP→HP→List HP→Prop
 |head {L H H'}:Mp (H::L) H H' (H'::L)
 |tail {K L H H' L2}:Mp L H H' L2→Mp (K::L) H H' (K::L2)
inductive P6:List HP→HP→List HP→Prop
 |head {L H}:P6 (H::L) H L
 |tail {K L H L2}:P6 L H L2→P6 (K::L) H (K::L2)
def Sp.pick {S:Nat→Prop}{h}{L c:List HP}{H:HP}(p:P6 L H c):∀{A:Nat→Prop},Sp S L h A→Sp S (H::c) h A:=by
 induction p with
 |head=>exact id
 |tail p g=>
  rintro A ⟨F,i,j,k⟩;obtain⟨G,l,d,m⟩:=g k;refine⟨G,l,λb a=>(d b a).1,F,i,λb a=>⟨j b a,λn=>(d b n).2 a⟩,m.mono λb a=>⟨⟨a.1.1,a.2⟩,a.1.2⟩⟩
def Pp {S:Nat→Prop}{h}{L c:List HP}{H:HP}(p:P6 L H c):∀{A:Nat→Prop},Sp S (H::c) h A→Sp S L h A:=by
 induction p with
 |head=>exact id
 |tail p g=>
  rintro A ⟨G,i,j,F,k,d,l⟩;refine⟨F,k,λb a=>(d b a).1,g ⟨G,i,λb a=>⟨j b a,λm=>(d b m).2 a⟩,l.mono λb a=>⟨⟨a.1.1,a.2⟩,a.1.2⟩⟩⟩
def Mp.pick {L H H' L2}(r:Mp L H H' L2):∃M,P6 L H M∧P6 L2 H' M:=by
 induction r with
 |head=>exact⟨_,.head,.head⟩
 |tail r a=>obtain⟨M,p,q⟩:=a;exact⟨_,.tail p,.tail q⟩
def Sp.get {S:Nat→Prop}{h}{L:List HP}{H:HP}{A:Nat→Prop}(a:H∈L) (c:Sp S L h A):∃F,H.holds S F h∧∀b,F b→A b:=by
 induction L generalizing A with
 |nil=>cases a
 |cons K L d=>
  obtain⟨F,g,i,j⟩:=c;cases a with
  |head=>exact⟨F,g,i⟩
  |tail _ a=>obtain⟨G,k,l⟩:=d a j;exact⟨G,k,λb m=>(l b m).1⟩
def St.get {S L h H}(a:St S L h) (c:H∈L):∃F,H.holds S F h∧∀b,F b→b<h.size∧¬S b:=Sp.get c a.2
def St.upd {S L h H H' L2 h'}(d:St S L h) (r:Mp L H H' L2) (g:h.size≤h'.size)
  (k:∀F,H.holds S F h→(∀b,F b→b<h.size∧¬S b)→∃i,H'.holds S i h'∧(∀b,i b→F b∨(h.size≤b∧b<h'.size))∧∀b,b<h.size→¬F b→h'[b]? =h[b]?):
  St S L2 h'∧Cc S h S h':=by
 obtain⟨M,p,q⟩:=r.pick;obtain⟨F,t,j,u⟩:=Sp.pick p d.2;obtain⟨i,v,n,o⟩:=k F t j;have s:∀b,S b→h'[b]? =h[b]? :=λb a=>o b (d.1 b a) λc=>(j b c).2 a;refine⟨⟨λb a=>vB (d.1 b a) g,?_⟩,λ_ x=>x,s,g⟩;refine Pp q ⟨i,v,λb a=>?_,?_⟩
 ·rcases n b a with c|⟨hl,hu⟩
  ·exact⟨vB (j b c).1 g,(j b c).2⟩
  ·exact⟨hu,λl=>absurd (d.1 b l) (by omega)⟩
 ·refine Sp.ext u (λ_ x=>x) (λb a=>?_) λb a=>⟨⟨vB a.1.1 g,a.1.2⟩,λm=>?_⟩
  ·rcases a with a|a
   ·exact s b a
   ·exact o b a.1.1 a.2
  ·rcases n b m with c|⟨hl,_⟩
   ·exact a.2 c
   ·exact absurd a.1.1 (by omega)
def St.add {S L h H' h'}(c:St S L h) (g:h.size≤h'.size) (l:∀b,b<h.size→h'[b]? =h[b]?)
  (k:∃d,H'.holds S d h'∧∀b,d b→h.size≤b∧b<h'.size):St S (H'::L) h'∧Cc S h S h':=by
 obtain⟨d,m,i⟩:=k;refine⟨⟨λb a=>vB (c.1 b a) g,d,m,λb a=>⟨(i b a).2,λj=>absurd (c.1 b j) (by have:=(i b a).1;omega)⟩,?_⟩,λ_ x=>x,λb a=>l b (c.1 b a),g⟩;refine Sp.ext c.2 (λ_ x=>x) (λb a=>l b (a.elim (c.1 b) (·.1))) λb a=>⟨⟨vB a.1 g,a.2⟩,λn=>absurd a.1 (by have:=(i b n).1;omega)⟩
def St.pub {S L h H L2}(c:St S L h) (p:P6 L H L2):∃F,H.holds S F h∧(∀b,F b→b<h.size∧¬S b)∧St (λb=>S b∨F b) L2 h∧Cc S h (λb=>S b∨F b) h:=by
 obtain⟨F,g,d,i⟩:=Sp.pick p c.2;refine⟨F,g,d,⟨λb a=>a.elim (c.1 b) λj=>(d b j).1,?_⟩,λ_ x=> .inl x,λ_ _=>rfl,uW _⟩;exact Sp.ext i (λ_ x=> .inl x) (λ_ _=>rfl) λb a=>⟨a.1.1,λh=>h.elim a.1.2 a.2⟩
def St.drop {S L h H L2}(a:St S L h) (p:P6 L H L2):St S L2 h:=by
 obtain⟨F,g,i,c⟩:=Sp.pick p a.2;exact⟨a.1,c.mono λb d=>d.1⟩
structure BU (α:Type) where
 sz:Nat
 ag:Bool
 rd:(Nat→Prop)→AX→List Value→α→Prop
 len:∀{S h cs x},rd S h cs x→cs.length=sz
 one:∀{S h cs x},rd S h cs x→∀v∈cs,v.oneCell'=true
 mono:∀{S S' h h' cs x},rd S h cs x→(∀b,S b→S' b)→(∀b,S b→h'[b]? =h[b]?)→rd S' h' cs x
def BU.val {α}(r:BU α) (cs:List Value):Value:=if r.ag then .agg cs.toArray else cs.headD undef
def Rd {α}(S:Nat→Prop) (h:AX) (r:BU α) (v:Value) (x:α):Prop:=∃cs,v=r.val cs∧r.rd S h cs x
def Rd.mono {α S h S' h'}{r:BU α}{v x}(k:Rd S h r v x) (e:Cc S h S' h'):Rd S' h' r v x:=
 let ⟨cs,a,b⟩:=k;⟨cs,a,r.mono b e.sub e.same⟩
def Pc (S:Nat→Prop) (h:AX) (p:Value) (cs:List Value):Prop:=
 ∃a:Addr,p= .pointer (some a)∧a.spot=none∧S a.block∧∀j,j<cs.length→JT h ⟨a.block,a.off+j,none⟩=cs[j]?
def Pc.mono {S h S' h' p cs}(k:Pc S h p cs) (s:∀b,S b→S' b) (e:∀b,S b→h'[b]? =h[b]?):Pc S' h' p cs:=
 let ⟨a,d,g,c,i⟩:=k;⟨a,d,g,s _ c,λj l=>(To (a:=⟨a.block,a.off+j,none⟩) (e _ c)).trans (i j l)⟩
def NK {α}(A S:Nat→Prop) (h:AX) (r:BU α) (p:Value) (x:α):Prop:=∃cs,Pc A h p cs∧r.rd S h cs x
abbrev Pt {α}(S:Nat→Prop) (h:AX) (r:BU α) (p:Value) (x:α):Prop:=NK S S h r p x
def NK.mono {α S h S' h'}{r:BU α}{p x}(k:Pt S h r p x) (e:Cc S h S' h'):Pt S' h' r p x:=
 let ⟨cs,a,b⟩:=k;⟨cs,a.mono e.sub e.same,r.mono b e.sub e.same⟩
def AA (n:Int):Prop:= -9223372036854775808≤n∧n≤9223372036854775807
def AY:BU Int where
 sz:=1
 ag:=false
 rd:=λ_ _ cs x=>cs=[.int .i64 x]∧AA x
 len:=λ⟨h,_⟩=>by rw[h];rfl
 one:=λ⟨h,_⟩ v a=>by rw[h] at a;simp at a;rw[a];rfl
 mono:=λh _ _=>h
def BU.bool:BU Bool where
 sz:=1
 ag:=false
 rd:=λ_ _ cs x=>cs=[.bool x]
 len:=λh=>by rw[h];rfl
 one:=λh v a=>by rw[h] at a;simp at a;rw[a];rfl
 mono:=λh _ _=>h
def BU.str:BU ByteArray where
 sz:=1
 ag:=false
 rd:=λ_ _ cs x=>cs=[.string x]∧x.size≤maxLen
 len:=λ⟨h,_⟩=>by rw[h];rfl
 one:=λ⟨h,_⟩ v a=>by rw[h] at a;simp at a;rw[a];rfl
 mono:=λh _ _=>h
def Sl {α}(S:Nat→Prop) (h:AX) (r:BU α) (v:Value) (l:List α):Prop:=
 (v= .slice none 0 0∧l=[])∨
 ∃(a:Addr) (cap:Nat),v= .slice (some a) l.length cap∧l.length≤cap∧cap≤maxLen∧
  ∀i x,l[i]? =some x→a.spot=none∧Pt S h r (.pointer (some ⟨a.block,a.off+i*r.sz,none⟩)) x
def Sl.mono {α S h S' h'}{r:BU α}{v l}(k:Sl S h r v l) (s:∀b,S b→S' b) (e:∀b,S b→h'[b]? =h[b]?):Sl S' h' r v l:=by
 rcases k with k|⟨a,cap,h1,h4,h5,h6⟩
 ·exact .inl k
 ·refine .inr ⟨a,cap,h1,h4,h5,λi x d=>?_⟩;obtain⟨c,cs,g,j⟩:=h6 i x d;exact⟨c,cs,g.mono s e,r.mono j s e⟩
def Sl.len {α S h}{r:BU α}{v l}(k:Sl S h r v l):∃a cap,v= .slice a l.length cap∧l.length≤maxLen:=by
 rcases k with ⟨rfl,rfl⟩|⟨a,cap,h1,h4,h5,h6⟩
 ·exact⟨none,0,rfl,uO _⟩
 ·exact⟨some a,cap,h1,wP h4 h5⟩
def BU.sl {α}(r:BU α):BU (List α) where
 sz:=1
 ag:=false
 rd:=λS h cs l=>∃v,cs=[v]∧Sl S h r v l
 len:=λ⟨_,h,_⟩=>by rw[h];rfl
 one:=λ⟨u,h,k⟩ v b=>by
  rw[h] at b;simp at b;rw[b];rcases k with ⟨rfl,_⟩|⟨a,c,rfl,_⟩<;>rfl
 mono:=λ⟨v,h,k⟩ s e=>⟨v,h,k.mono s e⟩
def Sl.mono' {α S h S' h'}{r:BU α}{v l}(k:Sl S h r v l) (e:Cc S h S' h'):Sl S' h' r v l:=k.mono e.sub e.same
def Rd.int {S h v x}(k:Rd S h AY v x):v= .int .i64 x∧AA x:=by obtain⟨_,rfl,rfl,h⟩:=k;exact⟨rfl,h⟩
def Rd.bool {S h v x}(k:Rd S h BU.bool v x):v= .bool x:=by obtain⟨_,rfl,rfl⟩:=k;rfl
def Rd.str {S h v x}(k:Rd S h BU.str v x):v= .string x∧x.size≤maxLen:=by obtain⟨_,rfl,rfl,h⟩:=k;exact⟨rfl,h⟩
def Rd.sl {α S h v x}{r:BU α}(k:Rd S h r.sl v x):Sl S h r v x:=by obtain⟨_,rfl,_,rfl,h⟩:=k;exact h
def Se {α S h v x}{r:BU α}(k:Sl S h r v x):Rd S h r.sl v x:=⟨[v],rfl,v,rfl,k⟩
def GC {α β}(r:BU α) (o:Nat) (r':BU β) (f:α→β):Prop:=
 ∀{S h cs x},r.rd S h cs x→r'.rd S h ((cs.drop o).take r'.sz) (f x)
def NK.fld {α β A S h}{r:BU α}{r':BU β}{o f p x}(k:NK A S h r p x) (b:GC r o r' f):
  ∃a:Addr,p= .pointer (some a)∧NK A S h r' (.pointer (some (a.add o))) (f x):=by
 obtain⟨cs,⟨a,rfl,c,d,g⟩,i⟩:=k;refine⟨a,rfl,_,⟨a.add o,rfl,?_,?_,?_⟩,b i⟩
 ·unfold Addr.add;split<;>simp [c]
 ·unfold Addr.add;split<;>exact d
 ·intro j l;have m:(a.add o).block=a.block:=by unfold Addr.add;split<;>rfl
  have n:(a.add o).off=a.off+o:=by unfold Addr.add;split<;>simp_all
  rw[m,n];simp only[vV,xC] at l;have:=g (o+j) (by omega);rw[Nat.add_assoc,this,wU (by omega),wX]
abbrev BR (n:Int):Int:=IntKind.i64.wrap n
def QM {n:Int}(h:AA n):BR n=n:=IntWalk.i64_in n h
def B1 (n:Int):AA (BR n):=by
 unfold BR AA;rw[IntKind.wrap_i64];omega
def Sc (x y:Int):(x==y)=decide (x=y):=by rw[Bool.eq_iff_iff];simp
def eM:TypeDesc→Bool
 | .struct _| .array _ _=>true
 |_=>false
def LV (P:Program) (t:TypeId) (sz:Nat) (ag:Bool):Bool:=
 match P.info? t,P.underlying t with
 |some i,some d=>Nat.beq i.size sz&&(match d with| .struct _| .array _ _=>ag|_=> !ag)
 |_,_=>false
def RY (P:Program) (t e sz:Nat):Bool:=
 match P.underlying t,P.info? e with
 |some (.slice a),some i=>Nat.beq a e&&Nat.beq i.size sz&& !Nat.beq sz 0
 |_,_=>false
def Zz (P:Program) (t j a:Nat):Bool:=
 match P.underlying t with
 |some (.struct b)=>match b[j]? with
  |some f=>Nat.beq f.offset a&&(match P.info? f.type with|some i=> !Nat.beq i.size 0|none=>false)
  |none=>false
 |_=>false
def Qm {P t sz ag}(h:LV P t sz ag=true):∃i d,P.info? t=some i∧P.underlying t=some d∧i.size=sz∧eM d=ag:=by
 unfold LV at h;split at h
 ·rename_i i d a hd;simp only[uL] at h;refine⟨i,d,a,hd,uR h.1,?_⟩;have b:=h.2;cases d<;>cases ag<;>simp_all [eM]
 ·cases h
def Np {P t e sz}(h:RY P t e sz=true):∃i,P.underlying t=some (.slice e)∧P.info? e=some i∧i.size=sz∧0<sz:=by
 unfold RY at h;split at h
 ·rename_i k i d g;simp only[uL,vE] at h;obtain⟨⟨a,b⟩,c⟩:=h;have j:=uR a;subst j;refine⟨i,d,g,uR b,?_⟩;cases sz with
  |zero=>simp at c
  |succ n=>exact Nat.succ_pos _
 ·cases h
def Zy {P t j off}(h:Zz P t j off=true):∃a f i,P.underlying t=some (.struct a)∧a[j]? =some f∧f.offset=off∧P.info? f.type=some i∧i.size≠0:=by
 unfold Zz at h;split at h
 ·rename_i a c;split at h
  ·rename_i f d;simp only[uL] at h;have b:=h.2;split at b
   ·rename_i i g;refine⟨a,f,i,c,d,uR h.1,g,λh0=>?_⟩;rw[h0] at b;simp at b
   ·cases b
  ·cases h
 ·cases h
section
variable {P:Program}{w:World}
def Rb {t:TypeId}{i:TypeInfo}(h:P.info? t=some i):(sizeOf t).run P w= .ok i.size w:=by simp [sizeOf,typeInfo,h]
def Tz {t d}(h:P.underlying t=some d):(isAgg t).run P w= .ok (eM d) w:=by
 simp only[isAgg,Sem.run_bind,run_underlying h,Result.andThen_ok];cases d<;>rfl
def N5 {S:Nat→Prop}{p:Value}{cs:List Value}{t sz:Nat}{ag:Bool}(k:Pc S w.heap p cs) (g:cs.length=sz) (y:LV P t sz ag=true) (z:ag=false→sz=1):
  (Instr.loadAt t p).run P w= .ok (if ag then .agg cs.toArray else cs.headD undef) w:=by
 obtain⟨a,rfl,u,D,A⟩:=k;obtain⟨i,d,B,hd,C,n⟩:=Qm y;have JT:∀j,j<cs.length→w.cell? (a.add j)=cs[j]? :=λj m=>by
  have:=A j m;obtain⟨b,o,s⟩:=a;simp only at u;subst u;have l:(⟨b,o,none⟩:Addr).add j=⟨b,o+j,none⟩:=by unfold Addr.add;split<;>simp_all
  rw[l,LX];exact this
 simp only[Instr.loadAt,Instr.sureAddr,loadVar,Sem.run_bind,Sem.run_pure,Result.andThen_ok,Tz hd,n];cases ag with
 |true=>
  simp only[if_true,Sem.run_bind,Rb B,Result.andThen_ok,C,←g];rw[run_loadCells_list (P:=P) w a cs (λj v m=>by
   have q:j<cs.length:=(uV.1 m).1;rw[JT j q,m])]
  rfl
 |false=>
  have:=z rfl;have x:=JT 0 (by omega)
  match cs,g with
  |[c],_=>
   have h0:a.add 0=a:=by unfold Addr.add;simp
   rw[h0] at x;simp only[wS,if_false,load,Sem.run,x];rfl
  |[],g=>simp at g;omega
  |_::_::_,g=>simp at g;omega
def NR {a:Addr}{t j off}(h:Zz P t j off=true):(Instr.fieldAt t (.pointer (some a)) j).run P w= .ok (.pointer (some (a.add off))) w:=by
 obtain⟨l,f,i,b,c,d,g,k⟩:=Zy h;simp [Instr.fieldAt,run_underlying b,c,Instr.sureAddr,fieldPlace,Rb g,k,d]
def O7 {a:Addr}{t e sz len cap:Nat}{i:Int}(h:RY P t e sz=true) (h0:0≤i) (k:i.toNat<len):
  (Instr.indexAt t (.slice (some a) len cap) (.int .i64 i)).run P w= .ok (.pointer (some (a.add (i.toNat*sz)))) w:=by
 obtain⟨c,d,g,j,l⟩:=Np h;have b:i<(len:Int):=by omega
 simp [Instr.indexAt,asIntOf,run_underlying d,Rb g,h0,b,j]
end
def CK (C:World→Prop) (h:AX):Prop:=∀w,C w→∀b,b<h.size→w.heap[b]? =h[b]?
def KP {B:World}{h}:CK (Wd B h) h:=λw a _ _=>by rw[a.heap]
structure Gf (h h':AX):Prop where
 siz:h.size≤h'.size
 same:∀b,b<h.size→h'[b]? =h[b]?
def Gf.refl (h:AX):Gf h h:=⟨uW _,λ_ _=>rfl⟩
def Gf.trans {h h' h''}(x:Gf h h') (y:Gf h' h''):Gf h h'':=⟨wP x.siz y.siz,λb a=>(y.same b (vB a x.siz)).trans (x.same b a)⟩
def Gf.ext {S h h'}(o:Gf h h') (a:∀b,S b→b<h.size):Cc S h S h':=⟨λ_ x=>x,λb c=>o.same b (a b c),o.siz⟩
def Gf.all {S h h'}(o:Gf h h') (a:∀b,S b→b<h.size):Cc S h (λb=>b<h'.size) h':=⟨λb x=>vB (a b x) o.siz,λb c=>o.same b (a b c),o.siz⟩
def Gf.st {S L h h'}(o:Gf h h') (c:St S L h):St S L h':=
 ⟨λb a=>vB (c.1 b a) o.siz,Sp.ext c.2 (λ_ x=>x) (λb a=>o.same b (a.elim (c.1 b) (·.1))) λ_ a=>⟨vB a.1 o.siz,a.2⟩⟩
def Cl (B:World) (h:AX) (w:World):Prop:=∃h',Wd B h' w∧Gf h h'
def SO {B:World}{h}:CK (Cl B h) h:=λ_ ⟨_,a,o⟩ b c=>by rw[a.heap];exact o.same b c
section
variable {P:Program}{ops:Array Oper}{C:World→Prop}{Q:Act→Prop}{n:FN}{a:Act}{m:List (Nat×Value)}{rest:List Oper}
variable {d:Nat}{ty:TypeId}{pos:String}{af:Array Edge}
def Hf {c:Op}{v:Value}(g:Fr n a m) (hd:Nat.blt d n.1=true)
  (b:∀w,C w→(execOp a.eval ⟨some d,c,ty,pos,af,none⟩).run P w= .ok (.value v) w)
  (k:∀a,Fr n a ((d,v)::m)→wpQuiet P ops C Q rest a):wpQuiet P ops C Q (⟨some d,c,ty,pos,af,none⟩::rest) a:=by
 unfold wpQuiet;rw[uJ (by simp [Region.wanted])];exact⟨v,λw i=>by unfold Oper.quietAt;rw[b w i];exact⟨rfl,rfl⟩,k _ (g.put hd v)⟩
def tC {o:Oper}{j e:Nat}{b:Bool}(c:Fr n a m) (d:o.guard=some (j,b)) (g:(ops[j]?).bind (·.dst)=some e) (i:lk m e=some (.bool b))
  (k:wpQuiet P ops C Q ({ o with guard:=none}::rest) a):wpQuiet P ops C Q (o::rest) a:=by
 have l:Region.wanted o (yielded ops a.tmps)=true:=by
  have:=c.at_ e _ i;simp [Region.wanted,d,yielded,g,this]
 unfold wpQuiet at k ⊢;rw[uJ l];rw[uJ (by simp [Region.wanted])] at k;exact k
def tD {o:Oper}{j e:Nat}{b:Bool}(c:Fr n a m) (g:o.guard=some (j,!b)) (i:(ops[j]?).bind (·.dst)=some e) (l:lk m e=some (.bool b)) (p:o.dst=some d) (hd:Nat.blt d n.1=true)
  (k:∀a,Fr n a ((d,undef)::m)→wpQuiet P ops C Q rest a):wpQuiet P ops C Q (o::rest) a:=by
 have q:Region.wanted o (yielded ops a.tmps)=false:=by
  have:=c.at_ e _ l;cases b<;>simp [Region.wanted,g,yielded,i,this]
 unfold wpQuiet;rw[uI (by rw[q];exact Bool.false_ne_true),p];exact k _ (c.put hd _)
def T4 (k:Nat) (I:Act→Prop) {l:List Oper}(b:wpQuiet P ops C I (l.take k) a) (c:∀g,I g→wpQuiet P ops C Q (l.drop k) g):wpQuiet P ops C Q l a:=by
 induction k generalizing l a with
 |zero=>exact c a (by simpa [wpQuiet] using b)
 |succ k i=>
  cases l with
  |nil=>exact c a (by simpa [wpQuiet] using b)
  |cons o l=>
   simp only[List.take_succ_cons,List.drop_succ_cons] at b c;unfold wpQuiet at b ⊢;split
   ·rename_i d;rw[uJ d] at b;obtain⟨v,j,m⟩:=b;exact⟨v,j,i m c⟩
   ·rename_i d;rw[uI d] at b;exact i b c
def tA {X v}(b:Fr n a m) (c:CL m X=some v) (hd:Nat.blt d n.1=true)
  (k:∀a,Fr n a ((d,v)::m)→wpQuiet P ops C Q rest a):wpQuiet P ops C Q (⟨some d,.move X,ty,pos,af,none⟩::rest) a:=
 Hf b hd (λw _=>by simp [execOp,b.eval c]) k
def tF {X v}(b:Fr n a m) (c:CL m X=some v) (hd:Nat.blt d n.1=true)
  (k:∀a,Fr n a ((d,v)::m)→wpQuiet P ops C Q rest a):wpQuiet P ops C Q (⟨some d,.assign X,ty,pos,af,none⟩::rest) a:=
 Hf b hd (λw _=>by simp [execOp,b.eval c]) k
def jJ {c x y:Operand}{b:Bool}{v}(g:Fr n a m) (i:CL m c=some (.bool b)) (j:CL m (if b then x else y)=some v) (hd:Nat.blt d n.1=true)
  (k:∀a,Fr n a ((d,v)::m)→wpQuiet P ops C Q rest a):wpQuiet P ops C Q (⟨some d,.pick c x y,ty,pos,af,none⟩::rest) a:=
 Hf g hd (λw _=>by cases b<;>simp [execOp,g.eval i,asBool]<;>exact g.eval (by simpa using j)) k
section ints
variable {X Y:Operand}{t1 t2:TypeId}{x y:Int}{kd:IntKind}
def PD {b:BinOp}{v:Value}(c:Fr n a m) (g:CL m X=some (.int kd x)) (i:CL m Y=some (.int kd y)) (hd:Nat.blt d n.1=true)
  (j:∀w,(binOp b t1 (.int kd x) (.int kd y)).run P w= .ok v w)
  (k:∀a,Fr n a ((d,v)::m)→wpQuiet P ops C Q rest a):wpQuiet P ops C Q (⟨some d,.binOp b t1 X Y t2,ty,pos,af,none⟩::rest) a:=by
 refine Hf c hd (λw _=>?_) k;have l:(eqGuard b t1 X Y (.int kd x) (.int kd y)).run P w= .ok () w:=by
  unfold eqGuard;cases b<;>simp
 simp [execOp,c.eval g,c.eval i,l,j]
def pD (b:Fr n a m) (c:CL m X=some (.int .i64 x)) (g:CL m Y=some (.int .i64 y)) (hd:Nat.blt d n.1=true) (i:AA (x+y))
  (k:∀a,Fr n a ((d,.int .i64 (x+y))::m)→wpQuiet P ops C Q rest a):wpQuiet P ops C Q (⟨some d,.binOp .add t1 X Y t2,ty,pos,af,none⟩::rest) a:=
 PD b c g hd (λw=>by have:=QM i;simp only[BR] at this;simp [binOp,Op.intArith,this]) k
def oM (b:Fr n a m) (c:CL m X=some (.int .i64 x)) (g:CL m Y=some (.int .i64 y)) (hd:Nat.blt d n.1=true) (i:AA (x*y))
  (k:∀a,Fr n a ((d,.int .i64 (x*y))::m)→wpQuiet P ops C Q rest a):wpQuiet P ops C Q (⟨some d,.binOp .mul t1 X Y t2,ty,pos,af,none⟩::rest) a:=
 PD b c g hd (λw=>by have:=QM i;simp only[BR] at this;simp [binOp,Op.intArith,this]) k
def jM (b:Fr n a m) (c:CL m X=some (.int .i64 x)) (g:CL m Y=some (.int .i64 y)) (hd:Nat.blt d n.1=true)
  (k:∀a,Fr n a ((d,.int .i64 (BR (x+y)))::m)→wpQuiet P ops C Q rest a):wpQuiet P ops C Q (⟨some d,.binOp .add t1 X Y t2,ty,pos,af,none⟩::rest) a:=
 PD b c g hd (λw=>by simp [binOp,Op.intArith]) k
def jI (b:Fr n a m) (c:CL m X=some (.int .i64 x)) (g:CL m Y=some (.int .i64 y)) (hd:Nat.blt d n.1=true)
  (k:∀a,Fr n a ((d,.int .i64 (BR (x-y)))::m)→wpQuiet P ops C Q rest a):wpQuiet P ops C Q (⟨some d,.binOp .sub t1 X Y t2,ty,pos,af,none⟩::rest) a:=
 PD b c g hd (λw=>by simp [binOp,Op.intArith]) k
def oP (b:Fr n a m) (c:CL m X=some (.int kd x)) (g:CL m Y=some (.int kd y)) (hd:Nat.blt d n.1=true)
  (k:∀a,Fr n a ((d,.bool (decide (x<y)))::m)→wpQuiet P ops C Q rest a):wpQuiet P ops C Q (⟨some d,.binOp .lss t1 X Y t2,ty,pos,af,none⟩::rest) a:=
 PD b c g hd (λw=>by simp [binOp,Op.intCmp]) k
def oQ (b:Fr n a m) (c:CL m X=some (.int kd x)) (g:CL m Y=some (.int kd y)) (hd:Nat.blt d n.1=true)
  (k:∀a,Fr n a ((d,.bool (decide (x≤y)))::m)→wpQuiet P ops C Q rest a):wpQuiet P ops C Q (⟨some d,.binOp .leq t1 X Y t2,ty,pos,af,none⟩::rest) a:=
 PD b c g hd (λw=>by simp [binOp,Op.intCmp]) k
def oX (b:Fr n a m) (c:CL m X=some (.int kd x)) (g:CL m Y=some (.int kd y)) (hd:Nat.blt d n.1=true)
  (k:∀a,Fr n a ((d,.bool (decide (y<x)))::m)→wpQuiet P ops C Q rest a):wpQuiet P ops C Q (⟨some d,.binOp .gtr t1 X Y t2,ty,pos,af,none⟩::rest) a:=
 PD b c g hd (λw=>by simp [binOp,Op.intCmp]) k
def oY (b:Fr n a m) (c:CL m X=some (.int kd x)) (g:CL m Y=some (.int kd y)) (hd:Nat.blt d n.1=true)
  (k:∀a,Fr n a ((d,.bool (decide (y≤x)))::m)→wpQuiet P ops C Q rest a):wpQuiet P ops C Q (⟨some d,.binOp .geq t1 X Y t2,ty,pos,af,none⟩::rest) a:=
 PD b c g hd (λw=>by simp [binOp,Op.intCmp]) k
def pB (b:Fr n a m) (c:CL m X=some (.int kd x)) (g:CL m Y=some (.int kd y)) (hd:Nat.blt d n.1=true)
  (k:∀a,Fr n a ((d,.bool (decide (x=y)))::m)→wpQuiet P ops C Q rest a):wpQuiet P ops C Q (⟨some d,.binOp .eql t1 X Y t2,ty,pos,af,none⟩::rest) a:=
 PD b c g hd (λw=>by simp [binOp,Op.intCmp,Sc]) k
def oL (b:Fr n a m) (c:CL m X=some (.int kd x)) (g:CL m Y=some (.int kd y)) (hd:Nat.blt d n.1=true)
  (k:∀a,Fr n a ((d,.bool (decide (x≠y)))::m)→wpQuiet P ops C Q rest a):wpQuiet P ops C Q (⟨some d,.binOp .neq t1 X Y t2,ty,pos,af,none⟩::rest) a:=
 PD b c g hd (λw=>by simp [binOp,Op.intCmp,bne,Sc]) k
end ints
def oK {X t1 b}(c:Fr n a m) (g:CL m X=some (.bool b)) (hd:Nat.blt d n.1=true)
  (k:∀a,Fr n a ((d,.bool (!b))::m)→wpQuiet P ops C Q rest a):wpQuiet P ops C Q (⟨some d,.unOp .not t1 X,ty,pos,af,none⟩::rest) a:=
 Hf c hd (λw _=>by simp [execOp,c.eval g,Op.unary]) k
section loads
variable {A S:Nat→Prop}{L:List HP}{h:AX}{X:Operand}{p:Value}{t:TypeId}
def gA {cs:List Value}{sz:Nat}{ag:Bool}(g:CK C h) (i:∀b,A b→b<h.size) (c:Fr n a m) (j:CL m X=some p) (k0:Pc A h p cs) (l:cs.length=sz) (o:LV P t sz ag=true) (q:ag=false→sz=1) (hd:Nat.blt d n.1=true)
  (k:∀a,Fr n a ((d,if ag then .agg cs.toArray else cs.headD undef)::m)→wpQuiet P ops C Q rest a):wpQuiet P ops C Q (⟨some d,.load t X,ty,pos,af,none⟩::rest) a:=by
 refine Hf c hd (λw s=>?_) k;have:=N5 (P:=P) (w:=w) (k0.mono (λ_ x=>x) λb u=>g w s b (i b u)) l o q;simp [execOp,c.eval j,this]
def Zb {α}{r:BU α}{x}(i:CK C h) (j:∀b,A b→b<h.size) (l:Fr n a m) (o:CL m X=some p) (k0:NK A S h r p x) (q:LV P t r.sz r.ag=true) (s:r.ag=false→r.sz=1) (hd:Nat.blt d n.1=true)
  (k:∀v a,Fr n a ((d,v)::m)→Rd S h r v x→wpQuiet P ops C Q rest a):wpQuiet P ops C Q (⟨some d,.load t X,ty,pos,af,none⟩::rest) a:=by
 obtain⟨cs,u,g⟩:=k0;exact gA i j l o u (r.len g) q s hd λw c=>k _ w c ⟨cs,rfl,g⟩
def oV {x}(g:CK C h) (i:∀b,A b→b<h.size) (j:Fr n a m) (l:CL m X=some p) (k0:NK A S h AY p x) (o:LV P t 1 false=true) (hd:Nat.blt d n.1=true)
  (k:∀a,Fr n a ((d,.int .i64 x)::m)→AA x→wpQuiet P ops C Q rest a):wpQuiet P ops C Q (⟨some d,.load t X,ty,pos,af,none⟩::rest) a:=
 Zb g i j l k0 o (λ_=>rfl) hd λv q c s=>by obtain⟨rfl,u⟩:=s.int;exact k q c u
def oW {x}(g:CK C h) (i:∀b,A b→b<h.size) (j:Fr n a m) (l:CL m X=some p) (k0:NK A S h BU.bool p x) (o:LV P t 1 false=true) (hd:Nat.blt d n.1=true)
  (k:∀a,Fr n a ((d,.bool x)::m)→wpQuiet P ops C Q rest a):wpQuiet P ops C Q (⟨some d,.load t X,ty,pos,af,none⟩::rest) a:=
 Zb g i j l k0 o (λ_=>rfl) hd λv q c s=>by obtain rfl:=s.bool;exact k q c
def oS {x}(g:CK C h) (i:∀b,A b→b<h.size) (j:Fr n a m) (l:CL m X=some p) (k0:NK A S h BU.str p x) (o:LV P t 1 false=true) (hd:Nat.blt d n.1=true)
  (k:∀a,Fr n a ((d,.string x)::m)→x.size≤maxLen→wpQuiet P ops C Q rest a):wpQuiet P ops C Q (⟨some d,.load t X,ty,pos,af,none⟩::rest) a:=
 Zb g i j l k0 o (λ_=>rfl) hd λv q c s=>by obtain⟨rfl,u⟩:=s.str;exact k q c u
def oU {α}{r:BU α}{x}(g:CK C h) (i:∀b,A b→b<h.size) (j:Fr n a m) (l:CL m X=some p) (k0:NK A S h r.sl p x) (o:LV P t 1 false=true) (hd:Nat.blt d n.1=true)
  (k:∀v a,Fr n a ((d,v)::m)→Sl S h r v x→wpQuiet P ops C Q rest a):wpQuiet P ops C Q (⟨some d,.load t X,ty,pos,af,none⟩::rest) a:=
 Zb g i j l k0 o (λ_=>rfl) hd λv q c s=>k v q c s.sl
def tE {α β}{r:BU α}{r':BU β}{f:α→β}{j off x}(c:Fr n a m) (g:CL m X=some p) (k0:NK A S h r p x) (i:GC r off r' f) (l:Zz P t j off=true) (hd:Nat.blt d n.1=true)
  (k:∀q a,Fr n a ((d,q)::m)→NK A S h r' q (f x)→wpQuiet P ops C Q rest a):wpQuiet P ops C Q (⟨some d,.fieldAddr t X j,ty,pos,af,none⟩::rest) a:=by
 obtain⟨u,rfl,o⟩:=k0.fld i;exact Hf c hd (λw _=>by simp [execOp,c.eval g,NR l]) λs b=>k _ s b o
def oZ {b o j off}(g:Fr n a m) (i:CL m X=some (.pointer (some ⟨b,o,none⟩))) (l:Zz P t j off=true) (hd:Nat.blt d n.1=true)
  (k:∀a,Fr n a ((d,.pointer (some ⟨b,o+off,none⟩))::m)→wpQuiet P ops C Q rest a):wpQuiet P ops C Q (⟨some d,.fieldAddr t X j,ty,pos,af,none⟩::rest) a:=by
 have c:(⟨b,o,none⟩:Addr).add off=⟨b,o+off,none⟩:=by unfold Addr.add;split<;>simp_all
 exact Hf g hd (λw _=>by simp [execOp,g.eval i,NR l,c]) k
def Sl.at_ {α}{r:BU α}{v:Value}{l:List α}(k0:Sl S h r v l) {i:Nat}{x:α}(d:l[i]? =some x):
  ∃(a:Addr) (cap:Nat),v= .slice (some a) l.length cap∧Pt S h r (.pointer (some (a.add (i*r.sz)))) x:=by
 rcases k0 with ⟨rfl,rfl⟩|⟨a,cap,h1,h4,h5,h6⟩
 ·simp at d
 ·refine⟨a,cap,h1,?_⟩;obtain⟨g,this⟩:=h6 i x d;obtain⟨b,o,s⟩:=a;simp only at g;subst g;have c:(⟨b,o,none⟩:Addr).add (i*r.sz)=⟨b,o+i*r.sz,none⟩:=by unfold Addr.add;split<;>simp_all
  rw[c];exact this
def tB {α}{r:BU α}{l:List α}{e i x Y v}(b:Fr n a m) (j:CL m X=some v) (o:CL m Y=some (.int .i64 i)) (k0:Sl S h r v l) (p:RY P t e r.sz=true) (h0:0≤i) (g:l[i.toNat]? =some x) (hd:Nat.blt d n.1=true)
  (k:∀q a,Fr n a ((d,q)::m)→Pt S h r q x→wpQuiet P ops C Q rest a):wpQuiet P ops C Q (⟨some d,.indexAddr t X Y,ty,pos,af,none⟩::rest) a:=by
 obtain⟨s,cap,rfl,u⟩:=k0.at_ g;have y:i.toNat<l.length:=(uV.1 g).1;exact Hf b hd (λw _=>by simp [execOp,b.eval j,b.eval o,O7 (P:=P) (w:=w) (cap:=cap) (a:=s) p h0 y]) λz c=>k _ z c u
def oR {α}{r:BU α}{l:List α}{v aty e}(c:Fr n a m) (g:CL m X=some v) (k0:Sl S h r v l) (j:RY P t e r.sz=true) (hd:Nat.blt d n.1=true)
  (k:∀a,Fr n a ((d,.int .i64 l.length)::m)→l.length≤maxLen→wpQuiet P ops C Q rest a):wpQuiet P ops C Q (⟨some d,.call ⟨.builtin .len,#[X],#[t]⟩,aty,pos,af,none⟩::rest) a:=by
 obtain⟨s,cap,rfl,o⟩:=k0.len;obtain⟨i,p,_⟩:=Np j;exact Hf c hd (λw _=>by simp [execOp,resolve,invoke,builtin,Builtin.len_,c.eval g,run_underlying p,goInt]) λq b=>k q b o
def jK {ad len cap aty e sz}(b:Fr n a m) (c:CL m X=some (.slice ad len cap)) (g:RY P t e sz=true) (hd:Nat.blt d n.1=true)
  (k:∀a,Fr n a ((d,.int .i64 len)::m)→wpQuiet P ops C Q rest a):wpQuiet P ops C Q (⟨some d,.call ⟨.builtin .len,#[X],#[t]⟩,aty,pos,af,none⟩::rest) a:=by
 obtain⟨i,j,_⟩:=Np g;exact Hf b hd (λw _=>by simp [execOp,resolve,invoke,builtin,Builtin.len_,b.eval c,run_underlying j,goInt]) k
end loads
def oO {X Y t1 t2 x y aty kd}(b:Fr n a m) (c:CL m X=some (.int kd x)) (g:CL m Y=some (.int kd y)) (hd:Nat.blt d n.1=true)
  (k:∀a,Fr n a ((d,.int kd (max x y))::m)→wpQuiet P ops C Q rest a):wpQuiet P ops C Q (⟨some d,.call ⟨.builtin .max,#[X,Y],#[t1,t2]⟩,aty,pos,af,none⟩::rest) a:=
 Hf b hd (λw _=>by
  have:(if y>x then y else x)=max x y:=by rw[Int.max_def];split<;>split<;>omega
  simp [execOp,resolve,invoke,builtin,Builtin.max_,Builtin.max2,b.eval c,b.eval g,this]) k
def oN {X Y t1 t2 x y aty kd}(b:Fr n a m) (c:CL m X=some (.int kd x)) (g:CL m Y=some (.int kd y)) (hd:Nat.blt d n.1=true)
  (k:∀a,Fr n a ((d,.int kd (min x y))::m)→wpQuiet P ops C Q rest a):wpQuiet P ops C Q (⟨some d,.call ⟨.builtin .min,#[X,Y],#[t1,t2]⟩,aty,pos,af,none⟩::rest) a:=
 Hf b hd (λw _=>by
  have:(if y<x then y else x)=min x y:=by rw[Int.min_def];split<;>split<;>omega
  simp [execOp,resolve,invoke,builtin,Builtin.min_,Builtin.min2,b.eval c,b.eval g,this]) k
end
end Go.Proofs.YtibidnaedddfdaaGreat
