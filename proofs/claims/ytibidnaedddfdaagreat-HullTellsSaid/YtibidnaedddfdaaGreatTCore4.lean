import Derived.WalkKit
import Derived.WalkSpells
import Derived.WalkLawsBesides
import Derived.Deep.QuietTactic
import Derived.KernelRfl
import Derived.Deep.LoopGhost
import Derived.Sort.LoopGhostIn
import Derived.TacticsIn
import Derived.OrdersIn
import Derived.RangeFuncLeaves
import Derived.RangeFuncNested
import Derived.Great.BuildSlice
namespace Go.Proofs.YtibidnaedddfdaaGreat
set_option linter.all false
theorem O {α:Sort _} {a:α}:a=a:=rfl
def wC:=@Option.bind_some
def wD:=@cond_true
def wE:=@cond_false
def wF:=@if_neg
def wG:=@if_pos
def wH:=@congrArg
def wI:=@Bool.and_eq_true
def wJ:=@decide_eq_true
def wK:=@List.cons.inj
def wL:=@Nat.zero_le
def wM:=@decide_eq_false
def wN:=@List.mem_cons
def wO:=@List.all_eq_true
def wP:=@Option.some.inj
def wQ:=@Nat.eq_of_beq_eq_true
def wR:=@List.getElem?_eq_getElem
def wS:=@List.contains_iff_mem
def wT:=@List.getElem_mem
def wU:=@List.getElem?_eq_some_iff
def wV:=@Nat.le_refl
def wW:=@decide_eq_true_eq
def wX:=@Nat.lt_of_lt_of_le
def wY:=@List.not_mem_nil
def wZ:=@Bool.or_eq_true
def xA:=@decide_eq_false_iff_not
def xB:=@Nat.lt_or_ge
def xC:=@Bool.not_eq_true'
def xD:=@Eq.trans
def xE:=@Bool.not_true
def xF:=@or_false
def xG:=@List.mem_range
def xH:=@List.length_map
def xI:=@Bool.or_eq_false_iff
def xJ:=@Option.getD_some
def xK:=@List.append_nil
def xL:=@List.mem_cons_self
def xM:=@Nat.zero_add
def xN:=@Array.getElem?_eq_some_iff
def xO:=@Option.some.injEq
def xP:=@List.mem_cons_of_mem
def xQ:=@List.map_cons
def xR:=@List.mem_map
def xS:=@Int.mul_le_mul_of_nonneg_right
def xT:=@List.length_take
def xU:=@List.take_length
def xV:=@List.mem_singleton
def xW:=@List.getD_eq_getElem?_getD
def xX:=@List.mem_append
def xY:=@List.mem_iff_getElem?
def xZ:=@Option.map_eq_some_iff
def yA:=@List.length_append
def yB:=@Nat.add_mul
def yC:=@Iff.rfl
def yD:=@List.nil_append
def yE:=@Int.le_refl
def yF:=@Nat.mod_lt
def yG:=@Array.getD_eq_getD_getElem?
def yH:=@Array.getElem?_setIfInBounds
def yI:=@Nat.le_trans
def yJ:=@List.mem_of_getElem?
def yK:=@Int.le_trans
def yL:=@Bool.false_eq_true
def yM:=@List.take_succ_eq_append_getElem
def yN:=@Bool.not_eq_true
def yO:=@Nat.mul_le_mul_right
def yP:=@List.map_append
def yQ:=@of_decide_eq_true
def yR:=@List.getElem?_take_of_lt
def yS:=@List.getElem?_drop
def yT:=@Nat.succ_mul
def yU:=@Bool.false_or
def yV:=@List.mem_append_left
def yW:=@Option.bind_eq_some_iff
def yX:=@List.append_assoc
def yY:=@List.cons_append
def yZ:=@List.mem_iff_getElem
def zA:=@List.mem_of_mem_take
def zB:=@Bool.false_and
def zC:=@Bool.not_eq_false'
def zD:=@List.take_append_drop
def zE:=@Bool.true_and
def zF:=@Int.mul_le_mul_of_nonneg_left
def zG:=@Bool.and_self
def zH:=@List.nodup_cons
def zI:=@List.getElem?_cons_zero
def zJ:=@List.getElem?_cons_succ
def zK:=@List.drop_drop
def zL:=@Nat.mod_eq_of_lt
def zM:=@List.getElem?_eq_none
def zN:=@List.drop_eq_nil_of_le
def zO:=@Int.natCast_mul
def zP:=@List.mem_filter
def zQ:=@List.getElem?_map
def zR:=@List.getElem?_take
def zT:=@Nat.le_of_lt_succ
def zU:=@Int.mul_nonneg
def zV:=@List.length_drop
def zW:=@List.all_cons
def zX:=@Nat.le_of_ble_eq_true
def zY:=@Prod.mk.injEq
def zZ:=@Nat.mul_comm
def Aaa:=@Option.map_some
def Aab:=@Array.all_eq_true_iff_forall_mem
def Aac:=@List.drop_eq_getElem_cons
def Aad:=@List.take_take
def Aae:=@List.length_set
def Aaf:=@of_decide_eq_false
def Aag:=@List.sum_cons
def Aah:=@decide_eq_decide
def Aai:=@List.getElem?_set_ne
def Aaj:=@decide_false
def Aak:=@Array.getElem?_eq_getElem
def Aal:=@List.mapM_cons
def Aam:=@List.take_left
def Aan:=@Int.toNat_natCast
def Aao:=@List.length_nil
def Aap:=@List.take_of_length_le
def Aaq:=@Nat.two_pow_pos
def Aar:=@Nat.add_sub_cancel
def Aas:=@Nat.div_add_mod
def Aat:=@Nat.mul_le_mul
def Aau:=@List.sum_append
def Aav:=@List.pairwise_iff_getElem
def Aaw:=@Bool.and_eq_false_iff
def Aax:=@List.getElem?_set_self
def Aay:=@Option.bind_fun_some
def Aaz:=@List.length_cons
def Aa0:=@List.cons.injEq
def Aa1:=@List.take_append_of_le_length
def Aa2:=@List.mem_filterMap
def Aa3:=@List.mem_append_right
def Aa4:=@List.length_singleton
def Aa5:=@BitVec.ofInt_natCast
def Aa6:=@BitVec.toNat_ofNat
def Aa7:=@Nat.lt_of_le_of_lt
def Aa8:=@Nat.eq_zero_or_pos
def Aa9:=@not_true_eq_false
def Aba:=@Option.bind_eq_bind
def Abb:=@List.getElem?_range
def Abc:=@Nat.lt_or_eq_of_le
def Abd:=@Classical.byContradiction
def Abe:=@Array.toList_replicate
def Abf:=@Nat.div_lt_iff_lt_mul
def Abg:=@List.mem_of_mem_drop
def Abh:=@Array.getElem?_setIfInBounds_ne
def Abi:=@List.getElem?_zip_eq_some
open Go.RowKit
abbrev A4:=Array Obj
def lk:List (Nat×Value)→Nat→Option Value
 |[],_=>none
 |(i,v)::r,j=>cond (Nat.beq i j) (some v) (lk r j)
abbrev FN:=Nat×List Deferred
structure Fr (n:FN) (a:Act) (m:List (Nat×Value)):Prop where
 dfr:a.defers=n.2
 siz:a.tmps.size=n.1
 at_:∀i v,lk m i=some v→a.tmps[i]? =some v
def CF (m:List (Nat×Value)):Operand→Option Value
 | .tmp t=>lk m t
 | .const v=>some v
 | .global a=>some (.pointer (some ⟨a,0,none⟩))
 | .func f=>some (.func (.func f) #[] #[])
def Fr.eval {n a m X v}(h:Fr n a m) (b:CF m X=some v):a.eval X=v:=by
 cases X with
 |tmp t=>
  have:=h.at_ t v b;simp [Act.eval,yG,this]
 |const u=>simpa [CF,Act.eval] using b
 |global c=>simpa [CF,Act.eval] using b
 |func f=>simpa [CF,Act.eval] using b
def Fr.put {n a m d}(h:Fr n a m) (hd:Nat.blt d n.1=true) (v:Value):Fr n (a.put (some d) v) ((d,v)::m):=by
 have c:d<n.1:=(by simpa [Nat.blt] using hd:d+1≤n.1)
 refine⟨by simpa [Act.put] using h.dfr,by simpa [Act.put] using h.siz,λi u b=>?_⟩;simp only[Act.put,yH];simp only[lk] at b;by_cases e:d=i
 ·subst e;have:Nat.beq d d=true:=by simp
  rw[this] at b;simp only[wD,xO] at b;subst b;simp [h.siz,c]
 ·have:Nat.beq d i=false:=by
   cases g:Nat.beq d i with
   |false=>rfl
   |true=>exact absurd (wQ g) e
  rw[this] at b;simp only[wE] at b;rw[wF e];exact h.at_ i u b
def Ud (m:List (Nat×Value)):List (Nat×Value)→Prop
 |[]=>True
 |e::r=>lk m e.1=some e.2∧Ud m r
def Fr.sub {n a m m'}(h:Fr n a m) (d:Ud m m'):Fr n a m':=by
 refine⟨h.dfr,h.siz,λi v b=>h.at_ i v ?_⟩
 induction m' with
 |nil=>simp [lk] at b
 |cons e r g=>
  obtain⟨j,u⟩:=e;simp only[lk] at b;cases c:Nat.beq j i with
  |true=>
   rw[c] at b;simp only[wD,xO] at b;have:=wQ c;subst this;subst b;exact d.1
  |false=>
   rw[c] at b;simp only[wE] at b;exact g d.2 b
def Ji (h:A4) (a:Addr):Option Value:=
 match h[a.block]? with
 |some (.cells c _ _)=>if a.spot.isSome then none else c[a.off]?
 |_=>none
def Mu (w:World) (a:Addr):w.cell? a=Ji w.heap a:=rfl
structure Wd (B:World) (h:A4) (w:World):Prop where
 heap:w.heap=h
 os:w.os=B.os
 tape:w.tape=B.tape
 out:w.output=B.output
structure CX (S:Nat→Prop) (h:A4) (S':Nat→Prop) (h':A4):Prop where
 sub:∀b,S b→S' b
 same:∀b,S b→h'[b]? =h[b]?
 siz:h.size≤h'.size
def CX.refl (S:Nat→Prop) (h:A4):CX S h S h:=⟨λ_ x=>x,λ_ _=>rfl,wV _⟩
def CX.trans {S h S' h' S'' h''}(x:CX S h S' h') (y:CX S' h' S'' h''):CX S h S'' h'':=
 ⟨λb a=>y.sub b (x.sub b a),λb a=>(y.same b (x.sub b a)).trans (x.same b a),yI x.siz y.siz⟩
def UY {h h':A4}{a:Addr}(e:h'[a.block]? =h[a.block]?):Ji h' a=Ji h a:=by simp [Ji,e]
structure HP where
 holds:(Nat→Prop)→(Nat→Prop)→A4→Prop
 loc:∀{S S' F h h'},holds S F h→(∀b,S b→S' b)→(∀b,S b∨F b→h'[b]? =h[b]?)→holds S' F h'
def Sp (S:Nat→Prop):List HP→A4→(Nat→Prop)→Prop
 |[],_,_=>True
 |H::L,h,A=>∃F,H.holds S F h∧(∀b,F b→A b)∧Sp S L h (λb=>A b∧¬F b)
def St (S:Nat→Prop) (L:List HP) (h:A4):Prop:=(∀b,S b→b<h.size)∧Sp S L h (λb=>b<h.size∧¬S b)
def Sp.mono {S:Nat→Prop}{L h}:∀{A c:Nat→Prop},Sp S L h A→(∀b,A b→c b)→Sp S L h c:=by
 induction L with
 |nil=>intros;trivial
 |cons H L g=>
  rintro A c ⟨F,i,j,k⟩ d;exact⟨F,i,λb a=>d b (j b a),g k λb a=>⟨d b a.1,a.2⟩⟩
def Sp.ext {S d:Nat→Prop}{L h h'}:∀{A c:Nat→Prop},Sp S L h A→(∀b,S b→d b)→(∀b,S b∨A b→h'[b]? =h[b]?)→(∀b,A b→c b)→Sp d L h' c:=by
 induction L with
 |nil=>intros;trivial
 |cons H L l=>
  rintro A c ⟨F,m,g,n⟩ i j k;refine⟨F,H.loc m i λb a=>j b (a.imp_right (g b)),λb a=>k b (g b a),?_⟩;exact l n i (λb a=>j b (a.imp_right (·.1))) λb a=>⟨k b a.1,a.2⟩
inductive Np:List HP→HP→HP→List HP→Prop
 |head {L H H'}:Np (H::L) H H' (H'::L)
 |tail {K L H H' L2}:Np L H H' L2→Np (K::L) H H' (K::L2)
inductive Q4:List HP→HP→List HP→Prop
 |head {L H}:Q4 (H::L) H L
 |tail {K L H L2}:Q4 L H L2→Q4 (K::L) H (K::L2)
def Sp.pick {S:Nat→Prop}{h}{L c:List HP}{H:HP}(p:Q4 L H c):∀{A:Nat→Prop},Sp S L h A→Sp S (H::c) h A:=by
 induction p with
 |head=>exact id
 |tail p g=>
  rintro A ⟨F,i,j,k⟩;obtain⟨G,l,d,m⟩:=g k;refine⟨G,l,λb a=>(d b a).1,F,i,λb a=>⟨j b a,λn=>(d b n).2 a⟩,m.mono λb a=>⟨⟨a.1.1,a.2⟩,a.1.2⟩⟩
def Qm {S:Nat→Prop}{h}{L c:List HP}{H:HP}(p:Q4 L H c):∀{A:Nat→Prop},Sp S (H::c) h A→Sp S L h A:=by
 induction p with
 |head=>exact id
 |tail p g=>
  rintro A ⟨G,i,j,F,k,d,l⟩;refine⟨F,k,λb a=>(d b a).1,g ⟨G,i,λb a=>⟨j b a,λm=>(d b m).2 a⟩,l.mono λb a=>⟨⟨a.1.1,a.2⟩,a.1.2⟩⟩⟩
def Np.pick {L H H' L2}(r:Np L H H' L2):∃M,Q4 L H M∧Q4 L2 H' M:=by
 induction r with
 |head=>exact⟨_,.head,.head⟩
 |tail r a=>obtain⟨M,p,q⟩:=a;exact⟨_,.tail p,.tail q⟩
def Sp.get {S:Nat→Prop}{h}{L:List HP}{H:HP}{A:Nat→Prop}(a:H∈L) (c:Sp S L h A):∃F,H.holds S F h∧∀b,F b→A b:=by
 induction L generalizing A with
 |nil=>cases a
 |cons K L d=>
  obtain⟨F,g,i,j⟩:=c;cases a with
  |head=>exact⟨F,g,i⟩
  |tail _ a=>obtain⟨G,k,l⟩:=d a j;exact⟨G,k,λb m=>(l b m).1⟩
def St.get {S L h H}(a:St S L h) (c:H∈L):∃F,H.holds S F h∧∀b,F b→b<h.size∧¬S b:=Sp.get c a.2
def St.upd {S L h H H' L2 h'}(d:St S L h) (r:Np L H H' L2) (g:h.size≤h'.size)
  (k:∀F,H.holds S F h→(∀b,F b→b<h.size∧¬S b)→∃i,H'.holds S i h'∧(∀b,i b→F b∨(h.size≤b∧b<h'.size))∧∀b,b<h.size→¬F b→h'[b]? =h[b]?):
  St S L2 h'∧CX S h S h':=by
 obtain⟨M,p,q⟩:=r.pick;obtain⟨F,t,j,u⟩:=Sp.pick p d.2;obtain⟨i,v,n,o⟩:=k F t j;have s:∀b,S b→h'[b]? =h[b]? :=λb a=>o b (d.1 b a) λc=>(j b c).2 a;refine⟨⟨λb a=>wX (d.1 b a) g,?_⟩,λ_ x=>x,s,g⟩;refine Qm q ⟨i,v,λb a=>?_,?_⟩
 ·rcases n b a with c|⟨hl,hu⟩
  ·exact⟨wX (j b c).1 g,(j b c).2⟩
  ·exact⟨hu,λl=>absurd (d.1 b l) (by omega)⟩
 ·refine Sp.ext u (λ_ x=>x) (λb a=>?_) λb a=>⟨⟨wX a.1.1 g,a.1.2⟩,λm=>?_⟩
  ·rcases a with a|a
   ·exact s b a
   ·exact o b a.1.1 a.2
  ·rcases n b m with c|⟨hl,_⟩
   ·exact a.2 c
   ·exact absurd a.1.1 (by omega)
def St.add {S L h H' h'}(c:St S L h) (g:h.size≤h'.size) (l:∀b,b<h.size→h'[b]? =h[b]?)
  (k:∃d,H'.holds S d h'∧∀b,d b→h.size≤b∧b<h'.size):St S (H'::L) h'∧CX S h S h':=by
 obtain⟨d,m,i⟩:=k;refine⟨⟨λb a=>wX (c.1 b a) g,d,m,λb a=>⟨(i b a).2,λj=>absurd (c.1 b j) (by have:=(i b a).1;omega)⟩,?_⟩,λ_ x=>x,λb a=>l b (c.1 b a),g⟩;refine Sp.ext c.2 (λ_ x=>x) (λb a=>l b (a.elim (c.1 b) (·.1))) λb a=>⟨⟨wX a.1 g,a.2⟩,λn=>absurd a.1 (by have:=(i b n).1;omega)⟩
def St.pub {S L h H L2}(c:St S L h) (p:Q4 L H L2):∃F,H.holds S F h∧(∀b,F b→b<h.size∧¬S b)∧St (λb=>S b∨F b) L2 h∧CX S h (λb=>S b∨F b) h:=by
 obtain⟨F,g,d,i⟩:=Sp.pick p c.2;refine⟨F,g,d,⟨λb a=>a.elim (c.1 b) λj=>(d b j).1,?_⟩,λ_ x=> .inl x,λ_ _=>rfl,wV _⟩;exact Sp.ext i (λ_ x=> .inl x) (λ_ _=>rfl) λb a=>⟨a.1.1,λh=>h.elim a.1.2 a.2⟩
def St.drop {S L h H L2}(a:St S L h) (p:Q4 L H L2):St S L2 h:=by
 obtain⟨F,g,i,c⟩:=Sp.pick p a.2;exact⟨a.1,c.mono λb d=>d.1⟩
structure BX (α:Type) where
 sz:Nat
 ag:Bool
 rd:(Nat→Prop)→A4→List Value→α→Prop
 len:∀{S h cs x},rd S h cs x→cs.length=sz
 one:∀{S h cs x},rd S h cs x→∀v∈cs,v.oneCell'=true
 mono:∀{S S' h h' cs x},rd S h cs x→(∀b,S b→S' b)→(∀b,S b→h'[b]? =h[b]?)→rd S' h' cs x
def BX.val {α}(r:BX α) (cs:List Value):Value:=if r.ag then .agg cs.toArray else cs.headD undef
def Rd {α}(S:Nat→Prop) (h:A4) (r:BX α) (v:Value) (x:α):Prop:=∃cs,v=r.val cs∧r.rd S h cs x
def Rd.mono {α S h S' h'}{r:BX α}{v x}(k:Rd S h r v x) (e:CX S h S' h'):Rd S' h' r v x:=
 let ⟨cs,a,b⟩:=k;⟨cs,a,r.mono b e.sub e.same⟩
def Qb (S:Nat→Prop) (h:A4) (p:Value) (cs:List Value):Prop:=
 ∃a:Addr,p= .pointer (some a)∧a.spot=none∧S a.block∧∀j,j<cs.length→Ji h ⟨a.block,a.off+j,none⟩=cs[j]?
def Qb.mono {S h S' h' p cs}(k:Qb S h p cs) (s:∀b,S b→S' b) (e:∀b,S b→h'[b]? =h[b]?):Qb S' h' p cs:=
 let ⟨a,d,g,c,i⟩:=k;⟨a,d,g,s _ c,λj l=>(UY (a:=⟨a.block,a.off+j,none⟩) (e _ c)).trans (i j l)⟩
def Ny {α}(A S:Nat→Prop) (h:A4) (r:BX α) (p:Value) (x:α):Prop:=∃cs,Qb A h p cs∧r.rd S h cs x
abbrev Pt {α}(S:Nat→Prop) (h:A4) (r:BX α) (p:Value) (x:α):Prop:=Ny S S h r p x
def Ny.mono {α S h S' h'}{r:BX α}{p x}(k:Pt S h r p x) (e:CX S h S' h'):Pt S' h' r p x:=
 let ⟨cs,a,b⟩:=k;⟨cs,a.mono e.sub e.same,r.mono b e.sub e.same⟩
def AA (n:Int):Prop:= -9223372036854775808≤n∧n≤9223372036854775807
def AW:BX Int where
 sz:=1
 ag:=false
 rd:=λ_ _ cs x=>cs=[.int .i64 x]∧AA x
 len:=λ⟨h,_⟩=>by rw[h];rfl
 one:=λ⟨h,_⟩ v a=>by rw[h] at a;simp at a;rw[a];rfl
 mono:=λh _ _=>h
def BX.bool:BX Bool where
 sz:=1
 ag:=false
 rd:=λ_ _ cs x=>cs=[.bool x]
 len:=λh=>by rw[h];rfl
 one:=λh v a=>by rw[h] at a;simp at a;rw[a];rfl
 mono:=λh _ _=>h
def BX.str:BX ByteArray where
 sz:=1
 ag:=false
 rd:=λ_ _ cs x=>cs=[.string x]∧x.size≤maxLen
 len:=λ⟨h,_⟩=>by rw[h];rfl
 one:=λ⟨h,_⟩ v a=>by rw[h] at a;simp at a;rw[a];rfl
 mono:=λh _ _=>h
def Sl {α}(S:Nat→Prop) (h:A4) (r:BX α) (v:Value) (l:List α):Prop:=
 (v= .slice none 0 0∧l=[])∨
 ∃(a:Addr) (cap:Nat),v= .slice (some a) l.length cap∧l.length≤cap∧cap≤maxLen∧
  ∀i x,l[i]? =some x→a.spot=none∧Pt S h r (.pointer (some ⟨a.block,a.off+i*r.sz,none⟩)) x
def Sl.mono {α S h S' h'}{r:BX α}{v l}(k:Sl S h r v l) (s:∀b,S b→S' b) (e:∀b,S b→h'[b]? =h[b]?):Sl S' h' r v l:=by
 rcases k with k|⟨a,cap,h1,h4,h5,h6⟩
 ·exact .inl k
 ·refine .inr ⟨a,cap,h1,h4,h5,λi x d=>?_⟩;obtain⟨c,cs,g,j⟩:=h6 i x d;exact⟨c,cs,g.mono s e,r.mono j s e⟩
def Sl.len {α S h}{r:BX α}{v l}(k:Sl S h r v l):∃a cap,v= .slice a l.length cap∧l.length≤maxLen:=by
 rcases k with ⟨rfl,rfl⟩|⟨a,cap,h1,h4,h5,h6⟩
 ·exact⟨none,0,rfl,wL _⟩
 ·exact⟨some a,cap,h1,yI h4 h5⟩
def BX.sl {α}(r:BX α):BX (List α) where
 sz:=1
 ag:=false
 rd:=λS h cs l=>∃v,cs=[v]∧Sl S h r v l
 len:=λ⟨_,h,_⟩=>by rw[h];rfl
 one:=λ⟨u,h,k⟩ v b=>by
  rw[h] at b;simp at b;rw[b];rcases k with ⟨rfl,_⟩|⟨a,c,rfl,_⟩<;>rfl
 mono:=λ⟨v,h,k⟩ s e=>⟨v,h,k.mono s e⟩
def Sl.mono' {α S h S' h'}{r:BX α}{v l}(k:Sl S h r v l) (e:CX S h S' h'):Sl S' h' r v l:=k.mono e.sub e.same
def Rd.int {S h v x}(k:Rd S h AW v x):v= .int .i64 x∧AA x:=by obtain⟨_,rfl,rfl,h⟩:=k;exact⟨rfl,h⟩
def Rd.bool {S h v x}(k:Rd S h BX.bool v x):v= .bool x:=by obtain⟨_,rfl,rfl⟩:=k;rfl
def Rd.str {S h v x}(k:Rd S h BX.str v x):v= .string x∧x.size≤maxLen:=by obtain⟨_,rfl,rfl,h⟩:=k;exact⟨rfl,h⟩
def Rd.sl {α S h v x}{r:BX α}(k:Rd S h r.sl v x):Sl S h r v x:=by obtain⟨_,rfl,_,rfl,h⟩:=k;exact h
def Yg {α S h v x}{r:BX α}(k:Sl S h r v x):Rd S h r.sl v x:=⟨[v],rfl,v,rfl,k⟩
def Gs {α β}(r:BX α) (o:Nat) (r':BX β) (f:α→β):Prop:=
 ∀{S h cs x},r.rd S h cs x→r'.rd S h ((cs.drop o).take r'.sz) (f x)
def Ny.fld {α β A S h}{r:BX α}{r':BX β}{o f p x}(k:Ny A S h r p x) (b:Gs r o r' f):
  ∃a:Addr,p= .pointer (some a)∧Ny A S h r' (.pointer (some (a.add o))) (f x):=by
 obtain⟨cs,⟨a,rfl,c,d,g⟩,i⟩:=k;refine⟨a,rfl,_,⟨a.add o,rfl,?_,?_,?_⟩,b i⟩
 ·unfold Addr.add;split<;>simp [c]
 ·unfold Addr.add;split<;>exact d
 ·intro j l;have m:(a.add o).block=a.block:=by unfold Addr.add;split<;>rfl
  have n:(a.add o).off=a.off+o:=by unfold Addr.add;split<;>simp_all
  rw[m,n];simp only[xT,zV] at l;have:=g (o+j) (by omega);rw[Nat.add_assoc,this,yR (by omega),yS]
abbrev BV (n:Int):Int:=IntKind.i64.wrap n
def Pv {n:Int}(h:AA n):BV n=n:=IntWalk.i64_in n h
def BY (n:Int):AA (BV n):=by
 unfold BV AA;rw[IntKind.wrap_i64];omega
def Rz (x y:Int):(x==y)=decide (x=y):=by rw[Bool.eq_iff_iff];simp
def Zb:TypeDesc→Bool
 | .struct _| .array _ _=>true
 |_=>false
def L5 (P:Program) (t:TypeId) (sz:Nat) (ag:Bool):Bool:=
 match P.info? t,P.underlying t with
 |some i,some d=>Nat.beq i.size sz&&(match d with| .struct _| .array _ _=>ag|_=> !ag)
 |_,_=>false
def TI (P:Program) (t e sz:Nat):Bool:=
 match P.underlying t,P.info? e with
 |some (.slice a),some i=>Nat.beq a e&&Nat.beq i.size sz&& !Nat.beq sz 0
 |_,_=>false
def bK (P:Program) (t j a:Nat):Bool:=
 match P.underlying t with
 |some (.struct b)=>match b[j]? with
  |some f=>Nat.beq f.offset a&&(match P.info? f.type with|some i=> !Nat.beq i.size 0|none=>false)
  |none=>false
 |_=>false
def Ro {P t sz ag}(h:L5 P t sz ag=true):∃i d,P.info? t=some i∧P.underlying t=some d∧i.size=sz∧Zb d=ag:=by
 unfold L5 at h;split at h
 ·rename_i i d a hd;simp only[wI] at h;refine⟨i,d,a,hd,wQ h.1,?_⟩;have b:=h.2;cases d<;>cases ag<;>simp_all [Zb]
 ·cases h
def P1 {P t e sz}(h:TI P t e sz=true):∃i,P.underlying t=some (.slice e)∧P.info? e=some i∧i.size=sz∧0<sz:=by
 unfold TI at h;split at h
 ·rename_i k i d g;simp only[wI,xC] at h;obtain⟨⟨a,b⟩,c⟩:=h;have j:=wQ a;subst j;refine⟨i,d,g,wQ b,?_⟩;cases sz with
  |zero=>simp at c
  |succ n=>exact Nat.succ_pos _
 ·cases h
def bI {P t j off}(h:bK P t j off=true):∃a f i,P.underlying t=some (.struct a)∧a[j]? =some f∧f.offset=off∧P.info? f.type=some i∧i.size≠0:=by
 unfold bK at h;split at h
 ·rename_i a c;split at h
  ·rename_i f d;simp only[wI] at h;have b:=h.2;split at b
   ·rename_i i g;refine⟨a,f,i,c,d,wQ h.1,g,λh0=>?_⟩;rw[h0] at b;simp at b
   ·cases b
  ·cases h
 ·cases h
section
variable {P:Program}{w:World}
def SW {t:TypeId}{i:TypeInfo}(h:P.info? t=some i):(sizeOf t).run P w= .ok i.size w:=by simp [sizeOf,typeInfo,h]
def Qe {t d}(h:P.underlying t=some d):(isAgg t).run P w= .ok (Zb d) w:=by
 simp only[isAgg,Sem.run_bind,run_underlying h,Result.andThen_ok];cases d<;>rfl
def Oq {S:Nat→Prop}{p:Value}{cs:List Value}{t sz:Nat}{ag:Bool}(k:Qb S w.heap p cs) (g:cs.length=sz) (y:L5 P t sz ag=true) (z:ag=false→sz=1):
  (Instr.loadAt t p).run P w= .ok (if ag then .agg cs.toArray else cs.headD undef) w:=by
 obtain⟨a,rfl,u,D,A⟩:=k;obtain⟨i,d,B,hd,C,n⟩:=Ro y;have Ji:∀j,j<cs.length→w.cell? (a.add j)=cs[j]? :=λj m=>by
  have:=A j m;obtain⟨b,o,s⟩:=a;simp only at u;subst u;have l:(⟨b,o,none⟩:Addr).add j=⟨b,o+j,none⟩:=by unfold Addr.add;split<;>simp_all
  rw[l,Mu];exact this
 simp only[Instr.loadAt,Instr.sureAddr,loadVar,Sem.run_bind,Sem.run_pure,Result.andThen_ok,Qe hd,n];cases ag with
 |true=>
  simp only[if_true,Sem.run_bind,SW B,Result.andThen_ok,C,←g];rw[run_loadCells_list (P:=P) w a cs (λj v m=>by
   have q:j<cs.length:=(wU.1 m).1;rw[Ji j q,m])]
  rfl
 |false=>
  have:=z rfl;have x:=Ji 0 (by omega)
  match cs,g with
  |[c],_=>
   have h0:a.add 0=a:=by unfold Addr.add;simp
   rw[h0] at x;simp only[yL,if_false,load,Sem.run,x];rfl
  |[],g=>simp at g;omega
  |_::_::_,g=>simp at g;omega
def N0 {a:Addr}{t j off}(h:bK P t j off=true):(Instr.fieldAt t (.pointer (some a)) j).run P w= .ok (.pointer (some (a.add off))) w:=by
 obtain⟨l,f,i,b,c,d,g,k⟩:=bI h;simp [Instr.fieldAt,run_underlying b,c,Instr.sureAddr,fieldPlace,SW g,k,d]
def P3 {a:Addr}{t e sz len cap:Nat}{i:Int}(h:TI P t e sz=true) (h0:0≤i) (k:i.toNat<len):
  (Instr.indexAt t (.slice (some a) len cap) (.int .i64 i)).run P w= .ok (.pointer (some (a.add (i.toNat*sz)))) w:=by
 obtain⟨c,d,g,j,l⟩:=P1 h;have b:i<(len:Int):=by omega
 simp [Instr.indexAt,asIntOf,run_underlying d,SW g,h0,b,j]
end
def CK (C:World→Prop) (h:A4):Prop:=∀w,C w→∀b,b<h.size→w.heap[b]? =h[b]?
def K1 {B:World}{h}:CK (Wd B h) h:=λw a _ _=>by rw[a.heap]
structure HS (h h':A4):Prop where
 siz:h.size≤h'.size
 same:∀b,b<h.size→h'[b]? =h[b]?
def HS.refl (h:A4):HS h h:=⟨wV _,λ_ _=>rfl⟩
def HS.trans {h h' h''}(x:HS h h') (y:HS h' h''):HS h h'':=⟨yI x.siz y.siz,λb a=>(y.same b (wX a x.siz)).trans (x.same b a)⟩
def HS.ext {S h h'}(o:HS h h') (a:∀b,S b→b<h.size):CX S h S h':=⟨λ_ x=>x,λb c=>o.same b (a b c),o.siz⟩
def HS.all {S h h'}(o:HS h h') (a:∀b,S b→b<h.size):CX S h (λb=>b<h'.size) h':=⟨λb x=>wX (a b x) o.siz,λb c=>o.same b (a b c),o.siz⟩
def HS.st {S L h h'}(o:HS h h') (c:St S L h):St S L h':=
 ⟨λb a=>wX (c.1 b a) o.siz,Sp.ext c.2 (λ_ x=>x) (λb a=>o.same b (a.elim (c.1 b) (·.1))) λ_ a=>⟨wX a.1 o.siz,a.2⟩⟩
def Cl (B:World) (h:A4) (w:World):Prop:=∃h',Wd B h' w∧HS h h'
def RG {B:World}{h}:CK (Cl B h) h:=λ_ ⟨_,a,o⟩ b c=>by rw[a.heap];exact o.same b c
section
variable {P:Program}{ops:Array Oper}{C:World→Prop}{Q:Act→Prop}{n:FN}{a:Act}{m:List (Nat×Value)}{rest:List Oper}
variable {d:Nat}{ty:TypeId}{pos:String}{af:Array Edge}
def HT {c:Op}{v:Value}(g:Fr n a m) (hd:Nat.blt d n.1=true)
  (b:∀w,C w→(execOp a.eval ⟨some d,c,ty,pos,af,none⟩).run P w= .ok (.value v) w)
  (k:∀a,Fr n a ((d,v)::m)→wpQuiet P ops C Q rest a):wpQuiet P ops C Q (⟨some d,c,ty,pos,af,none⟩::rest) a:=by
 unfold wpQuiet;rw[wG (by simp [Region.wanted])];exact⟨v,λw i=>by unfold Oper.quietAt;rw[b w i];exact⟨rfl,rfl⟩,k _ (g.put hd v)⟩
def uR {o:Oper}{j e:Nat}{b:Bool}(c:Fr n a m) (d:o.guard=some (j,b)) (g:(ops[j]?).bind (·.dst)=some e) (i:lk m e=some (.bool b))
  (k:wpQuiet P ops C Q ({ o with guard:=none}::rest) a):wpQuiet P ops C Q (o::rest) a:=by
 have l:Region.wanted o (yielded ops a.tmps)=true:=by
  have:=c.at_ e _ i;simp [Region.wanted,d,yielded,g,this]
 unfold wpQuiet at k ⊢;rw[wG l];rw[wG (by simp [Region.wanted])] at k;exact k
def uS {o:Oper}{j e:Nat}{b:Bool}(c:Fr n a m) (g:o.guard=some (j,!b)) (i:(ops[j]?).bind (·.dst)=some e) (l:lk m e=some (.bool b)) (p:o.dst=some d) (hd:Nat.blt d n.1=true)
  (k:∀a,Fr n a ((d,undef)::m)→wpQuiet P ops C Q rest a):wpQuiet P ops C Q (o::rest) a:=by
 have q:Region.wanted o (yielded ops a.tmps)=false:=by
  have:=c.at_ e _ l;cases b<;>simp [Region.wanted,g,yielded,i,this]
 unfold wpQuiet;rw[wF (by rw[q];exact Bool.false_ne_true),p];exact k _ (c.put hd _)
def Ul (k:Nat) (I:Act→Prop) {l:List Oper}(b:wpQuiet P ops C I (l.take k) a) (c:∀g,I g→wpQuiet P ops C Q (l.drop k) g):wpQuiet P ops C Q l a:=by
 induction k generalizing l a with
 |zero=>exact c a (by simpa [wpQuiet] using b)
 |succ k i=>
  cases l with
  |nil=>exact c a (by simpa [wpQuiet] using b)
  |cons o l=>
   simp only[List.take_succ_cons,List.drop_succ_cons] at b c;unfold wpQuiet at b ⊢;split
   ·rename_i d;rw[wG d] at b;obtain⟨v,j,m⟩:=b;exact⟨v,j,i m c⟩
   ·rename_i d;rw[wF d] at b;exact i b c
def uP {X v}(b:Fr n a m) (c:CF m X=some v) (hd:Nat.blt d n.1=true)
  (k:∀a,Fr n a ((d,v)::m)→wpQuiet P ops C Q rest a):wpQuiet P ops C Q (⟨some d,.move X,ty,pos,af,none⟩::rest) a:=
 HT b hd (λw _=>by simp [execOp,b.eval c]) k
def uU {X v}(b:Fr n a m) (c:CF m X=some v) (hd:Nat.blt d n.1=true)
  (k:∀a,Fr n a ((d,v)::m)→wpQuiet P ops C Q rest a):wpQuiet P ops C Q (⟨some d,.assign X,ty,pos,af,none⟩::rest) a:=
 HT b hd (λw _=>by simp [execOp,b.eval c]) k
def kM {c x y:Operand}{b:Bool}{v}(g:Fr n a m) (i:CF m c=some (.bool b)) (j:CF m (if b then x else y)=some v) (hd:Nat.blt d n.1=true)
  (k:∀a,Fr n a ((d,v)::m)→wpQuiet P ops C Q rest a):wpQuiet P ops C Q (⟨some d,.pick c x y,ty,pos,af,none⟩::rest) a:=
 HT g hd (λw _=>by cases b<;>simp [execOp,g.eval i,asBool]<;>exact g.eval (by simpa using j)) k
section ints
variable {X Y:Operand}{t1 t2:TypeId}{x y:Int}{kd:IntKind}
def P5 {b:BinOp}{v:Value}(c:Fr n a m) (g:CF m X=some (.int kd x)) (i:CF m Y=some (.int kd y)) (hd:Nat.blt d n.1=true)
  (j:∀w,(binOp b t1 (.int kd x) (.int kd y)).run P w= .ok v w)
  (k:∀a,Fr n a ((d,v)::m)→wpQuiet P ops C Q rest a):wpQuiet P ops C Q (⟨some d,.binOp b t1 X Y t2,ty,pos,af,none⟩::rest) a:=by
 refine HT c hd (λw _=>?_) k;have l:(eqGuard b t1 X Y (.int kd x) (.int kd y)).run P w= .ok () w:=by
  unfold eqGuard;cases b<;>simp
 simp [execOp,c.eval g,c.eval i,l,j]
def qZ (b:Fr n a m) (c:CF m X=some (.int .i64 x)) (g:CF m Y=some (.int .i64 y)) (hd:Nat.blt d n.1=true) (i:AA (x+y))
  (k:∀a,Fr n a ((d,.int .i64 (x+y))::m)→wpQuiet P ops C Q rest a):wpQuiet P ops C Q (⟨some d,.binOp .add t1 X Y t2,ty,pos,af,none⟩::rest) a:=
 P5 b c g hd (λw=>by have:=Pv i;simp only[BV] at this;simp [binOp,Op.intArith,this]) k
def qH (b:Fr n a m) (c:CF m X=some (.int .i64 x)) (g:CF m Y=some (.int .i64 y)) (hd:Nat.blt d n.1=true) (i:AA (x*y))
  (k:∀a,Fr n a ((d,.int .i64 (x*y))::m)→wpQuiet P ops C Q rest a):wpQuiet P ops C Q (⟨some d,.binOp .mul t1 X Y t2,ty,pos,af,none⟩::rest) a:=
 P5 b c g hd (λw=>by have:=Pv i;simp only[BV] at this;simp [binOp,Op.intArith,this]) k
def kP (b:Fr n a m) (c:CF m X=some (.int .i64 x)) (g:CF m Y=some (.int .i64 y)) (hd:Nat.blt d n.1=true)
  (k:∀a,Fr n a ((d,.int .i64 (BV (x+y)))::m)→wpQuiet P ops C Q rest a):wpQuiet P ops C Q (⟨some d,.binOp .add t1 X Y t2,ty,pos,af,none⟩::rest) a:=
 P5 b c g hd (λw=>by simp [binOp,Op.intArith]) k
def kL (b:Fr n a m) (c:CF m X=some (.int .i64 x)) (g:CF m Y=some (.int .i64 y)) (hd:Nat.blt d n.1=true)
  (k:∀a,Fr n a ((d,.int .i64 (BV (x-y)))::m)→wpQuiet P ops C Q rest a):wpQuiet P ops C Q (⟨some d,.binOp .sub t1 X Y t2,ty,pos,af,none⟩::rest) a:=
 P5 b c g hd (λw=>by simp [binOp,Op.intArith]) k
def qK (b:Fr n a m) (c:CF m X=some (.int kd x)) (g:CF m Y=some (.int kd y)) (hd:Nat.blt d n.1=true)
  (k:∀a,Fr n a ((d,.bool (decide (x<y)))::m)→wpQuiet P ops C Q rest a):wpQuiet P ops C Q (⟨some d,.binOp .lss t1 X Y t2,ty,pos,af,none⟩::rest) a:=
 P5 b c g hd (λw=>by simp [binOp,Op.intCmp]) k
def qL (b:Fr n a m) (c:CF m X=some (.int kd x)) (g:CF m Y=some (.int kd y)) (hd:Nat.blt d n.1=true)
  (k:∀a,Fr n a ((d,.bool (decide (x≤y)))::m)→wpQuiet P ops C Q rest a):wpQuiet P ops C Q (⟨some d,.binOp .leq t1 X Y t2,ty,pos,af,none⟩::rest) a:=
 P5 b c g hd (λw=>by simp [binOp,Op.intCmp]) k
def qT (b:Fr n a m) (c:CF m X=some (.int kd x)) (g:CF m Y=some (.int kd y)) (hd:Nat.blt d n.1=true)
  (k:∀a,Fr n a ((d,.bool (decide (y<x)))::m)→wpQuiet P ops C Q rest a):wpQuiet P ops C Q (⟨some d,.binOp .gtr t1 X Y t2,ty,pos,af,none⟩::rest) a:=
 P5 b c g hd (λw=>by simp [binOp,Op.intCmp]) k
def qU (b:Fr n a m) (c:CF m X=some (.int kd x)) (g:CF m Y=some (.int kd y)) (hd:Nat.blt d n.1=true)
  (k:∀a,Fr n a ((d,.bool (decide (y≤x)))::m)→wpQuiet P ops C Q rest a):wpQuiet P ops C Q (⟨some d,.binOp .geq t1 X Y t2,ty,pos,af,none⟩::rest) a:=
 P5 b c g hd (λw=>by simp [binOp,Op.intCmp]) k
def qX (b:Fr n a m) (c:CF m X=some (.int kd x)) (g:CF m Y=some (.int kd y)) (hd:Nat.blt d n.1=true)
  (k:∀a,Fr n a ((d,.bool (decide (x=y)))::m)→wpQuiet P ops C Q rest a):wpQuiet P ops C Q (⟨some d,.binOp .eql t1 X Y t2,ty,pos,af,none⟩::rest) a:=
 P5 b c g hd (λw=>by simp [binOp,Op.intCmp,Rz]) k
def qG (b:Fr n a m) (c:CF m X=some (.int kd x)) (g:CF m Y=some (.int kd y)) (hd:Nat.blt d n.1=true)
  (k:∀a,Fr n a ((d,.bool (decide (x≠y)))::m)→wpQuiet P ops C Q rest a):wpQuiet P ops C Q (⟨some d,.binOp .neq t1 X Y t2,ty,pos,af,none⟩::rest) a:=
 P5 b c g hd (λw=>by simp [binOp,Op.intCmp,bne,Rz]) k
end ints
def qE {X t1 b}(c:Fr n a m) (g:CF m X=some (.bool b)) (hd:Nat.blt d n.1=true)
  (k:∀a,Fr n a ((d,.bool (!b))::m)→wpQuiet P ops C Q rest a):wpQuiet P ops C Q (⟨some d,.unOp .not t1 X,ty,pos,af,none⟩::rest) a:=
 HT c hd (λw _=>by simp [execOp,c.eval g,Op.unary]) k
section loads
variable {A S:Nat→Prop}{L:List HP}{h:A4}{X:Operand}{p:Value}{t:TypeId}
def iC {cs:List Value}{sz:Nat}{ag:Bool}(g:CK C h) (i:∀b,A b→b<h.size) (c:Fr n a m) (j:CF m X=some p) (k0:Qb A h p cs) (l:cs.length=sz) (o:L5 P t sz ag=true) (q:ag=false→sz=1) (hd:Nat.blt d n.1=true)
  (k:∀a,Fr n a ((d,if ag then .agg cs.toArray else cs.headD undef)::m)→wpQuiet P ops C Q rest a):wpQuiet P ops C Q (⟨some d,.load t X,ty,pos,af,none⟩::rest) a:=by
 refine HT c hd (λw s=>?_) k;have:=Oq (P:=P) (w:=w) (k0.mono (λ_ x=>x) λb u=>g w s b (i b u)) l o q;simp [execOp,c.eval j,this]
def aL {α}{r:BX α}{x}(i:CK C h) (j:∀b,A b→b<h.size) (l:Fr n a m) (o:CF m X=some p) (k0:Ny A S h r p x) (q:L5 P t r.sz r.ag=true) (s:r.ag=false→r.sz=1) (hd:Nat.blt d n.1=true)
  (k:∀v a,Fr n a ((d,v)::m)→Rd S h r v x→wpQuiet P ops C Q rest a):wpQuiet P ops C Q (⟨some d,.load t X,ty,pos,af,none⟩::rest) a:=by
 obtain⟨cs,u,g⟩:=k0;exact iC i j l o u (r.len g) q s hd λw c=>k _ w c ⟨cs,rfl,g⟩
def qR {x}(g:CK C h) (i:∀b,A b→b<h.size) (j:Fr n a m) (l:CF m X=some p) (k0:Ny A S h AW p x) (o:L5 P t 1 false=true) (hd:Nat.blt d n.1=true)
  (k:∀a,Fr n a ((d,.int .i64 x)::m)→AA x→wpQuiet P ops C Q rest a):wpQuiet P ops C Q (⟨some d,.load t X,ty,pos,af,none⟩::rest) a:=
 aL g i j l k0 o (λ_=>rfl) hd λv q c s=>by obtain⟨rfl,u⟩:=s.int;exact k q c u
def qS {x}(g:CK C h) (i:∀b,A b→b<h.size) (j:Fr n a m) (l:CF m X=some p) (k0:Ny A S h BX.bool p x) (o:L5 P t 1 false=true) (hd:Nat.blt d n.1=true)
  (k:∀a,Fr n a ((d,.bool x)::m)→wpQuiet P ops C Q rest a):wpQuiet P ops C Q (⟨some d,.load t X,ty,pos,af,none⟩::rest) a:=
 aL g i j l k0 o (λ_=>rfl) hd λv q c s=>by obtain rfl:=s.bool;exact k q c
def qO {x}(g:CK C h) (i:∀b,A b→b<h.size) (j:Fr n a m) (l:CF m X=some p) (k0:Ny A S h BX.str p x) (o:L5 P t 1 false=true) (hd:Nat.blt d n.1=true)
  (k:∀a,Fr n a ((d,.string x)::m)→x.size≤maxLen→wpQuiet P ops C Q rest a):wpQuiet P ops C Q (⟨some d,.load t X,ty,pos,af,none⟩::rest) a:=
 aL g i j l k0 o (λ_=>rfl) hd λv q c s=>by obtain⟨rfl,u⟩:=s.str;exact k q c u
def qQ {α}{r:BX α}{x}(g:CK C h) (i:∀b,A b→b<h.size) (j:Fr n a m) (l:CF m X=some p) (k0:Ny A S h r.sl p x) (o:L5 P t 1 false=true) (hd:Nat.blt d n.1=true)
  (k:∀v a,Fr n a ((d,v)::m)→Sl S h r v x→wpQuiet P ops C Q rest a):wpQuiet P ops C Q (⟨some d,.load t X,ty,pos,af,none⟩::rest) a:=
 aL g i j l k0 o (λ_=>rfl) hd λv q c s=>k v q c s.sl
def uT {α β}{r:BX α}{r':BX β}{f:α→β}{j off x}(c:Fr n a m) (g:CF m X=some p) (k0:Ny A S h r p x) (i:Gs r off r' f) (l:bK P t j off=true) (hd:Nat.blt d n.1=true)
  (k:∀q a,Fr n a ((d,q)::m)→Ny A S h r' q (f x)→wpQuiet P ops C Q rest a):wpQuiet P ops C Q (⟨some d,.fieldAddr t X j,ty,pos,af,none⟩::rest) a:=by
 obtain⟨u,rfl,o⟩:=k0.fld i;exact HT c hd (λw _=>by simp [execOp,c.eval g,N0 l]) λs b=>k _ s b o
def qV {b o j off}(g:Fr n a m) (i:CF m X=some (.pointer (some ⟨b,o,none⟩))) (l:bK P t j off=true) (hd:Nat.blt d n.1=true)
  (k:∀a,Fr n a ((d,.pointer (some ⟨b,o+off,none⟩))::m)→wpQuiet P ops C Q rest a):wpQuiet P ops C Q (⟨some d,.fieldAddr t X j,ty,pos,af,none⟩::rest) a:=by
 have c:(⟨b,o,none⟩:Addr).add off=⟨b,o+off,none⟩:=by unfold Addr.add;split<;>simp_all
 exact HT g hd (λw _=>by simp [execOp,g.eval i,N0 l,c]) k
def Sl.at_ {α}{r:BX α}{v:Value}{l:List α}(k0:Sl S h r v l) {i:Nat}{x:α}(d:l[i]? =some x):
  ∃(a:Addr) (cap:Nat),v= .slice (some a) l.length cap∧Pt S h r (.pointer (some (a.add (i*r.sz)))) x:=by
 rcases k0 with ⟨rfl,rfl⟩|⟨a,cap,h1,h4,h5,h6⟩
 ·simp at d
 ·refine⟨a,cap,h1,?_⟩;obtain⟨g,this⟩:=h6 i x d;obtain⟨b,o,s⟩:=a;simp only at g;subst g;have c:(⟨b,o,none⟩:Addr).add (i*r.sz)=⟨b,o+i*r.sz,none⟩:=by unfold Addr.add;split<;>simp_all
  rw[c];exact this
def uQ {α}{r:BX α}{l:List α}{e i x Y v}(b:Fr n a m) (j:CF m X=some v) (o:CF m Y=some (.int .i64 i)) (k0:Sl S h r v l) (p:TI P t e r.sz=true) (h0:0≤i) (g:l[i.toNat]? =some x) (hd:Nat.blt d n.1=true)
  (k:∀q a,Fr n a ((d,q)::m)→Pt S h r q x→wpQuiet P ops C Q rest a):wpQuiet P ops C Q (⟨some d,.indexAddr t X Y,ty,pos,af,none⟩::rest) a:=by
 obtain⟨s,cap,rfl,u⟩:=k0.at_ g;have y:i.toNat<l.length:=(wU.1 g).1;exact HT b hd (λw _=>by simp [execOp,b.eval j,b.eval o,P3 (P:=P) (w:=w) (cap:=cap) (a:=s) p h0 y]) λz c=>k _ z c u
def qM {α}{r:BX α}{l:List α}{v aty e}(c:Fr n a m) (g:CF m X=some v) (k0:Sl S h r v l) (j:TI P t e r.sz=true) (hd:Nat.blt d n.1=true)
  (k:∀a,Fr n a ((d,.int .i64 l.length)::m)→l.length≤maxLen→wpQuiet P ops C Q rest a):wpQuiet P ops C Q (⟨some d,.call ⟨.builtin .len,#[X],#[t]⟩,aty,pos,af,none⟩::rest) a:=by
 obtain⟨s,cap,rfl,o⟩:=k0.len;obtain⟨i,p,_⟩:=P1 j;exact HT c hd (λw _=>by simp [execOp,resolve,invoke,builtin,Builtin.len_,c.eval g,run_underlying p,goInt]) λq b=>k q b o
def kN {ad len cap aty e sz}(b:Fr n a m) (c:CF m X=some (.slice ad len cap)) (g:TI P t e sz=true) (hd:Nat.blt d n.1=true)
  (k:∀a,Fr n a ((d,.int .i64 len)::m)→wpQuiet P ops C Q rest a):wpQuiet P ops C Q (⟨some d,.call ⟨.builtin .len,#[X],#[t]⟩,aty,pos,af,none⟩::rest) a:=by
 obtain⟨i,j,_⟩:=P1 g;exact HT b hd (λw _=>by simp [execOp,resolve,invoke,builtin,Builtin.len_,b.eval c,run_underlying j,goInt]) k
end loads
def qJ {X Y t1 t2 x y aty kd}(b:Fr n a m) (c:CF m X=some (.int kd x)) (g:CF m Y=some (.int kd y)) (hd:Nat.blt d n.1=true)
  (k:∀a,Fr n a ((d,.int kd (max x y))::m)→wpQuiet P ops C Q rest a):wpQuiet P ops C Q (⟨some d,.call ⟨.builtin .max,#[X,Y],#[t1,t2]⟩,aty,pos,af,none⟩::rest) a:=
 HT b hd (λw _=>by
  have:(if y>x then y else x)=max x y:=by rw[Int.max_def];split<;>split<;>omega
  simp [execOp,resolve,invoke,builtin,Builtin.max_,Builtin.max2,b.eval c,b.eval g,this]) k
def qI {X Y t1 t2 x y aty kd}(b:Fr n a m) (c:CF m X=some (.int kd x)) (g:CF m Y=some (.int kd y)) (hd:Nat.blt d n.1=true)
  (k:∀a,Fr n a ((d,.int kd (min x y))::m)→wpQuiet P ops C Q rest a):wpQuiet P ops C Q (⟨some d,.call ⟨.builtin .min,#[X,Y],#[t1,t2]⟩,aty,pos,af,none⟩::rest) a:=
 HT b hd (λw _=>by
  have:(if y<x then y else x)=min x y:=by rw[Int.min_def];split<;>split<;>omega
  simp [execOp,resolve,invoke,builtin,Builtin.min_,Builtin.min2,b.eval c,b.eval g,this]) k
end
abbrev AP:=Act→World→Prop
def fJ:List (Nat×AP)→Nat→Option AP
 |[],_=>none
 |(i,v)::r,j=>cond (Nat.beq i j) (some v) (fJ r j)
def Qx (ex:List (Nat×AP)) (R N:AP):Exit→Act→World→Prop
 | .normal=>N
 | .exit i=>match fJ ex i with
  |some k=>k
  |none=>λ_ _=>False
 | .ret=>R
 |_=>λ_ _=>False
def FF:Option Nat→Fence
 |none=>Fence.wide
 |some l=>Fence.wide.inRound l
def Zg (o:Oper):Bool:=match o.op with| .defer _=>false|_=>true
def Wt:Code→Bool
 | .skip=>true
 | .region _ ops _=>ops.toList.all Zg
 | .seq x y=>Wt x&&Wt y
 | .cond _ x y=>Wt x&&Wt y
 | .block _ c=>Wt c
 | .loop c=>Wt c
 | .exit _=>true
 | .ret=>true
 |_=>false
def RD (rd:Option Nat) (c:Code):Prop:=rd=none∨Wt c=true
def PV (rd:Option Nat) (f:FuncId):(FF rd).fn f:=by cases rd<;>trivial
def M3 (rd:Option Nat):(FF rd).depth=none:=by cases rd<;>rfl
def UR (rd:Option Nat):(FF rd).round=rd:=by cases rd<;>rfl
def Qp (P:Program) (rd:Option Nat):Machine.fenced P (FF rd)=Machine.fenced P Fence.wide:=by cases rd<;>rfl
def gS (rd:Option Nat) (n:Nat):(FF rd).room n:=λd h=>by rw[M3] at h;cases h
def VZ {P:Program}{f:FuncId}{args:Array Value}{w:World}{R:Ending→World→Prop}{rd:Option Nat}{n:Nat}(h:Calls P f args w R):CallsIn (FF rd) n P f args w R:=
 ⟨PV rd f,λcs _=>let ⟨e,a,fr,r,s,x⟩:=h cs;⟨e,a,fr,r,by rw[Qp];exact comesIn_wide.2 s,x⟩⟩
def jW {P:Program}{a:String}{args:Array Value}{w:World}{R:Value→World→Prop}{rd:Option Nat}{n:Nat}(h:Rows P a args w R):RowsIn (FF rd) n P a args w R:=
 λc cs _=>let ⟨v,b,r,s⟩:=h c cs;⟨v,b,r,by rw[Qp];exact stepsIn_wide.2 s⟩
section
variable {P:Program}{ops:Array Oper}{Q:Exit→Act→World→Prop}{rd:Option Nat}
def kU {o:Oper}{a:Act}{w:World}{K:Act→World→Prop}(b:rd=none∨Zg o=true) (g:∀a w,¬Q .outgrown a w) (h:o.wp P a w K Q∨(o.asks P a w∧LetsOut Q)):o.wpIn (FF rd) 0 P a w K Q:=by
 rcases h with h|⟨_,a0,w0,h⟩
 ·refine⟨λf _=>PV rd f,?_⟩;have i:o.semAt (FF rd).round a.eval=execOp a.eval o:=by
   rw[UR];cases rd with
   |none=>rfl
   |some l=>exact Oper.semAt_some l _ _ λc j=>b.elim (λb=>by cases b) λb=>by unfold Zg at b;rw[j] at b;cases b
  rw[i];unfold Oper.wp at h;generalize (execOp a.eval o).run P w=r at h
  cases r with
  |ok k m=>
   cases k<;>simp only[Oper.upon,Oper.uponIn] at h ⊢
   case value v=>exact h
   case skip=>exact h
   case defer d=>exact h
   case enter f args=>exact⟨λhd=>(by rw[M3] at hd;cases hd),VZ (h.mono λe n p=>by cases e<;>exact p)⟩
   case row r args=>exact⟨λhd=>(by rw[M3] at hd;cases hd),jW h⟩
  |halt x m=>cases x<;>simp only[Oper.upon,Oper.uponIn] at h ⊢;exact h
 ·exact absurd h (g a0 w0)
def XB (c:∀a w,¬Q .outgrown a w):∀(l:List Oper) (a:Act) (w:World),(rd=none∨l.all Zg=true)→wpList P ops Q l a w→wpListIn (FF rd) 0 P ops Q l a w
 |[],_,_,_,h=>h
 |o::b,a,w,g,h=>by
  have j:rd=none∨Zg o=true:=g.imp id λh=>by simp only[zW,wI] at h;exact h.1
  have i:rd=none∨b.all Zg=true:=g.imp id λh=>by simp only[zW,wI] at h;exact h.2
  unfold wpList at h;unfold wpListIn;split
  ·rename_i d;rw[wG d] at h;exact kU j c (h.imp (Oper.wp_mono λa w k=>XB c b a w i k) id)
  ·rename_i d;rw[wF d] at h;exact⟨λf _=>PV rd f,XB c b _ w i h⟩
def Yb (g:∀a w,¬Q .outgrown a w) (j:rd=none∨ops.toList.all Zg=true):∀(b:Nat) (c:Array Bool) (a:Act) (w:World),wpAny P .any ops Q b c a w→wpAnyIn (FF rd) 0 P .any ops Q b c a w
 |0,_,_,_,h=>h
 |b+1,c,a,w,h=>⟨h.1,λi p=>by
  have d:=h.2 i p;unfold wpOp at d;unfold wpOpIn;cases l:ops[i]? with
  |none=>simp only[l] at d ⊢;exact Yb g j b _ a w d
  |some o=>
   simp only[l] at d ⊢;have m:rd=none∨Zg o=true:=j.imp id λh=>wO.1 h o (by have:=Array.mem_of_getElem? l;simpa using this);split
   ·rename_i n;rw[wG n] at d;exact kU m g (d.imp (Oper.wp_mono λa w k=>Yb g j b _ a w k) id)
   ·rename_i n;rw[wF n] at d;exact⟨λf _=>PV rd f,Yb g j b _ _ w d⟩⟩
def W4 {l:List Oper}{id:Nat}{a:Act}{w:World}(hd:RD rd (.region id l.toArray false)) (b:∀a w,¬Q .outgrown a w) (h:wpList P l.toArray Q l a w):(Code.region id l.toArray false).wpIn (FF rd) 0 P Q a w:=
 wpIn_region_lit (XB b l a w (hd.imp (λx=>x) λh=>by simpa [Wt] using h) h)
def RU {id:Nat}{a:Act}{w:World}(hd:RD rd (.region id ops true)) (b:∀a w,¬Q .outgrown a w) (c:P.follows .mixedOrders=true)
  (h:wpAny P .any ops Q ops.size (Array.replicate ops.size false) a { w with drawn:=w.drawn+1}):(Code.region id ops true).wpIn (FF rd) 0 P Q a w:=
 wpIn_region_any c (Yb b (hd.imp (λx=>x) λh=>by simpa [Wt] using h) _ _ _ _ h)
end
def W (P:Program) (ex:List (Nat×AP)) (R:AP):List Code→AP→AP
 |[],N=>N
 |c::cs,N=>λa w=>∀rd,RD rd c→c.wpIn (FF rd) 0 P (Qx ex R (W P ex R cs N)) a w
section
variable {P:Program}{ex:List (Nat×AP)}{R N:AP}{cs:List Code}{a:Act}{w:World}
def RD.seq {rd:Option Nat}{x y:Code}(h:RD rd (.seq x y)):RD rd x∧RD rd y:=
 ⟨h.imp id λh=>by simp only[Wt,wI] at h;exact h.1,h.imp id λh=>by simp only[Wt,wI] at h;exact h.2⟩
def RD.cond {rd:Option Nat}{X:Operand}{x y:Code}(h:RD rd (.cond X x y)):RD rd x∧RD rd y:=
 ⟨h.imp id λh=>by simp only[Wt,wI] at h;exact h.1,h.imp id λh=>by simp only[Wt,wI] at h;exact h.2⟩
def RD.block {rd:Option Nat}{i:Nat}{c:Code}(h:RD rd (.block i c)):RD rd c:=h
def RD.loop {rd:Option Nat}{c:Code}(h:RD rd (.loop c)):RD rd c:=h
def OD {ex:List (Nat×AP)}{R N:AP}:∀a w,¬(Qx ex R N) .outgrown a w:=λ_ _ h=>h
def oU {x y:Code}(h:W P ex R (x::y::cs) N a w):W P ex R (.seq x y::cs) N a w:=by
 intro rd hd;refine wpIn_seq (wpIn_mono (h rd hd.seq.1) λe b c q=>?_);cases e with
 |normal=>exact q rd hd.seq.2
 |_=>exact q
def jL (h:W P ex R cs N a w):W P ex R (.skip::cs) N a w:=λ_ _=>wpIn_skip h
def oV (h:R a w):W P ex R (.ret::cs) N a w:=λ_ _=>wpIn_ret h
def Zo {i:Nat}{k:AP}(b:fJ ex i=some k) (h:k a w):W P ex R (.exit i::cs) N a w:=by
 refine λ_ _=>wpIn_exit ?_;simp only[Qx,b];exact h
def uH {n m X b}{x y:Code}(c:Fr n a m) (d:CF m X=some (.bool b)) (g:b=true→W P ex R (x::cs) N a w) (i:b=false→W P ex R (y::cs) N a w):
  W P ex R (.cond X x y::cs) N a w:=λrd hd=>wpIn_cond_split (c.eval d) (λe=>g e rd hd.cond.1) λe=>i e rd hd.cond.2
def oW {n m X}{x y:Code}(b:Fr n a m) (c:CF m X=some (.bool true)) (d:W P ex R (x::cs) N a w):
  W P ex R (.cond X x y::cs) N a w:=λrd hd=>wpIn_cond_true (b.eval c) (d rd hd.cond.1)
def oX {n m X}{x y:Code}(b:Fr n a m) (c:CF m X=some (.bool false)) (d:W P ex R (y::cs) N a w):
  W P ex R (.cond X x y::cs) N a w:=λrd hd=>wpIn_cond_false (b.eval c) (d rd hd.cond.2)
def V0 {i:Nat}{c:Code}(I:AP) (g:W P ((i,I)::ex) R [c] I a w) (d:∀a w,I a w→W P ex R cs N a w):W P ex R (.block i c::cs) N a w:=by
 intro rd hd;refine wpIn_block (wpIn_mono (g rd hd.block) λe l m q=>?_);cases e with
 |exit j=>
  simp only[Exit.inBlock,Qx,fJ] at q ⊢;by_cases b:j=i
  ·subst b;rw[wG rfl];have:Nat.beq j j=true:=Nat.beq_refl j;rw[this] at q;exact d _ _ q
  ·rw[wF b];have:Nat.beq i j=false:=by
    cases k:Nat.beq i j with
    |false=>rfl
    |true=>exact absurd (wQ k).symm b
   rw[this] at q;exact q
 |normal=>exact d _ _ q
 |_=>exact q
def eO {i:Nat}{c:Code}(h:W P ((i,W P ex R cs N)::ex) R [c] (W P ex R cs N) a w):W P ex R (.block i c::cs) N a w:=V0 _ h λ_ _ x=>x
def jM {b:AP}(h:W P ex R cs N a w) (d:∀a w,N a w→b a w):W P ex R cs b a w:=by
 induction cs generalizing a w with
 |nil=>exact d _ _ h
 |cons c cs g=>
  intro rd hd;refine wpIn_mono (h rd hd) λe i j q=>?_;cases e with
  |normal=>exact g q
  |_=>exact q
def oY {c:Code}(I:AP) (b:W P ex R [c] I a w) (d:∀a w,I a w→W P ex R cs N a w):W P ex R (c::cs) N a w:=by
 intro rd hd;refine wpIn_mono (b rd hd) λe g i q=>?_;cases e with
 |normal=>exact d _ _ q
 |_=>exact q
def jN {c:Code}(I:Nat→AP) (T d:Nat) (h0:I d a w) (g:∀i a w,I i a w→i≤T)
  (b:∀i a w,I i a w→W P ex R [c] (I (i+1)) a w):W P ex R (.loop c::cs) N a w:=by
 intro rd hd;refine wpIn_loop_ghost (λk a w=>∃i,I i a w∧k=T-i+1) (T-d+1) ⟨d,h0,rfl⟩ ?_;rintro n a w ⟨i,j,rfl⟩;refine wpIn_mono (b i a w j rd hd.loop) λe o p q=>?_;cases e with
 |normal=>
  have s:=g _ _ _ j;have m:I (i+1) o p:=q;have t:=g _ _ _ m;exact⟨_,by omega,i+1,m,rfl⟩
 |exit id=>exact q
 |goto l=>exact q
 |ret=>exact q
 |panic u=>exact q
 |outgrown=>exact q
end
def Md {P:Program}{ops:Array Oper}{C:World→Prop}{K:Act→Prop}{Q:Exit→Act→World→Prop}(d:∀a w,C w→K a→Q .normal a w):
  ∀(l:List Oper) (a:Act) (w:World),C w→wpQuiet P ops C K l a→wpList P ops Q l a w
 |[],a,w,c,h=>d a w c h
 |o::b,a,w,c,h=>by
  unfold wpQuiet at h;unfold wpList;split
  ·rename_i g;rw[wG g] at h;exact .inl (Oper.wp_of_quiet c (λj k i m=>Md d b j k i m) h)
  ·rename_i g;rw[wF g] at h;exact Md d b _ w c h
def aG (P:Program) (l:List Oper) (draw:Bool):Prop:=draw=false∨(P.follows .mixedOrders=true∧Region.lexB .any l.toArray=true)
def WE {P:Program}{C:World→Prop}{l:List Oper}{id:Nat}{draw:Bool}{Q:Exit→Act→World→Prop}{a:Act}{w:World}{rd:Option Nat}(b:RD rd (.region id l.toArray draw)) (g:∀a w,¬Q .outgrown a w) (m:aG P l draw) (c:C w) (hd:∀w,C w→C { w with drawn:=w.drawn+1})
  (h:wpQuiet P l.toArray C (λi=>∀d,C d→Q .normal i d) l a):(Code.region id l.toArray draw).wpIn (FF rd) 0 P Q a w:=by
 rcases m with rfl|⟨hm,hB⟩
 ·exact W4 b g (Md (λa w c j=>j w c) l a w c h)
 ·cases draw with
  |false=>exact W4 b g (Md (λa w c j=>j w c) l a w c h)
  |true=>
   simp only[Region.lexB,wI] at hB;refine RU b g hm (wpAny_of_quiet (Q:=λi=>∀d,C d→Q .normal i d) (λ_ d k h=>h d k) _ _ _ _ (hd w c) ?_);have:=wpAnyQ_lex (C:=C) (md:= .any) hB.1 l 0 (Array.replicate l.toArray.size false) a (by simp) (by simpa using hB.2) h;simpa using this
def Wd.drew {B h w}(k:Wd B h w):Wd B h { w with drawn:=w.drawn+1}:=⟨k.heap,k.os,k.tape,k.out⟩
section
variable {P:Program}{ex:List (Nat×AP)}{R N:AP}{cs:List Code}{a:Act}{w:World}{B:World}{h:A4}{l:List Oper}{id:Nat}{draw:Bool}{S:Nat→Prop}{L:List HP}
def uE (c:aG P l draw) (d:Wd B h w) (k:wpQuiet P l.toArray (Wd B h) (λg=>∀b,Wd B h b→W P ex R cs N g b) l a):W P ex R (.region id l.toArray draw::cs) N a w:=
 λ_ hd=>WE hd OD c d (λ_=>Wd.drew) k
def uG (j:aG P l draw) (m:Wd B h w) (i:St S L h) (k:wpQuiet P l.toArray (Cl B h) (λc=>∀b h',Wd B h' b→St S L h'→CX S h S h'→W P ex R cs N c b) l a):W P ex R (.region id l.toArray draw::cs) N a w:=by
 intro rd hd;refine WE (C:=Cl B h) hd OD j ⟨h,m,HS.refl h⟩ (λw ⟨h',g,d⟩=>⟨h',g.drew,d⟩) ?_;refine Ul l.length (λc=>∀b h',Wd B h' b→St S L h'→CX S h S h'→W P ex R cs N c b) (by simpa using k) λc n=>?_;simp only[List.drop_length];exact λb ⟨h',g,d⟩=>n b h' g (d.st i) (d.ext i.1)
def uF (k:wpList P l.toArray (Qx ex R (W P ex R cs N)) l a w):W P ex R (.region id l.toArray false::cs) N a w:=λ_ hd=>W4 hd OD k
end
def iF {P:Program}{ops:Array Oper}{ex:List (Nat×AP)}{R N:AP}{a:Act}{w:World}(h:N a w):wpList P ops (Qx ex R N) [] a w:=h
def RW {P:Program}{ops:Array Oper}{Q:Exit→Act→World→Prop}:∀(k:Nat) (l:List Oper) (a:Act) (w:World),
  wpList P ops (Exit.then (wpList P ops Q (l.drop k)) Q) (l.take k) a w→wpList P ops Q l a w
 |0,l,a,w,h=>by simpa [wpList,Exit.then] using h
 |k+1,[],a,w,h=>by simpa [wpList,Exit.then] using h
 |k+1,o::l,a,w,h=>by
  simp only[List.take_succ_cons,List.drop_succ_cons] at h;unfold wpList at h ⊢;split
  ·rename_i g;rw[wG g] at h;rcases h with b|⟨b,i,j,h2⟩
   ·refine .inl ?_;unfold Oper.wp at b ⊢;generalize (execOp a.eval o).run P w=r at b
    cases r with
    |ok p q=>
     cases p<;>simp only[Oper.upon] at b ⊢
     case value v=>exact RW k l _ _ b
     case skip=>exact RW k l _ _ b
     case defer d=>exact RW k l _ _ b
     case enter f args=>
      refine b.mono λe m n=>?_;cases e with
      |returned v=>exact RW k l _ _ n
      |panicked c=>exact n
      |outgrown=>obtain⟨i,j,h0⟩:=n;exact⟨i,j,h0⟩
     case row r args=>obtain b:=b;exact Rows.mono b λv m s=>RW k l _ _ s
    |halt x q=>cases x<;>simp only[Oper.upon] at b ⊢;exact b
   ·exact .inr ⟨b,i,j,h2⟩
  ·rename_i g;rw[wF g] at h;exact RW k l _ _ h
def l_q {P:Program}{ops:Array Oper}{Q:Exit→Act→World→Prop}{l:List Oper}{a:Act}{w B:World}{h:A4}(k:Nat) (b:Wd B h w)
  (d:wpQuiet P ops (Wd B h) (λg=>∀c,Wd B h c→wpList P ops Q (l.drop k) g c) (l.take k) a):wpList P ops Q l a w:=
 RW k l a w (Md (Q:=Exit.then (wpList P ops Q (l.drop k)) Q) (λ_ w b i=>i w b) (l.take k) a w b d)
def CA (P:Program) (f:FuncId) (args:Array Value) (S:Nat→Prop) (h:A4) (post:Value→(Nat→Prop)→A4→Prop):Prop:=
 ∀B w,Wd B h w→Calls P f args w λe a=>∃v S' h',e= .returned v∧Wd B h' a∧CX S h S' h'∧post v S' h'
def CA.mono {P f args S h}{post a:Value→(Nat→Prop)→A4→Prop}(k:CA P f args S h post) (c:∀v S' h',CX S h S' h'→post v S' h'→a v S' h'):CA P f args S h a:=
 λB w d=>(k B w d).mono λ_ _ ⟨v,S',h',g,i,b,j⟩=>⟨v,S',h',g,i,b,c v S' h' b j⟩
def XM:Nat→List Value→List (Nat×Value)
 |_,[]=>[]
 |i,v::r=>(i,v)::XM (i+1) r
def YB:∀(l:List Value) (k i:Nat) (v:Value),lk (XM k l) i=some v→k≤i∧l[i-k]? =some v
 |[],k,i,v,h=>by simp [XM,lk] at h
 |u::r,k,i,v,h=>by
  simp only[XM,lk] at h;cases a:Nat.beq k i with
  |true=>
   rw[a] at h;have:=wQ a;subst this;simp only[wD,xO] at h;exact⟨wV _,by simpa using h⟩
  |false=>
   rw[a] at h;simp only[wE] at h;obtain⟨c,b⟩:=YB r (k+1) i v h;refine⟨by omega,?_⟩;have:i-k=(i-(k+1))+1:=by omega
   rw[this];simpa using b
def Fr.args {n:Nat}{l:List Value}(h:l.length≤n):Fr (n,[]) ⟨l.toArray++Array.replicate (n-l.toArray.size) undef,[]⟩ (XM 0 l):=by
 refine⟨rfl,by simp;omega,λi v c=>?_⟩;obtain⟨_,a⟩:=YB l 0 i v c;have b:i<l.length:=by have:=(wU.1 a).1;omega
 simp only[Nat.sub_zero] at a;rw[Array.getElem?_append_left (by simpa using b)];simpa using a
def Su (Ds:List Nat):List Deferred:=Ds.map λD=>{ target:= .collected D,args:= #[]}
def eC (Ds:List Nat):HP where
 holds:=λ_ F h=>Ds.Nodup∧(∀b,F b↔b∈Ds)∧∀D,D∈Ds→h[D]? =some (.deferred (some []))
 loc:=λ⟨d,a,g⟩ _ e=>⟨d,a,λD c=>(e D (.inr ((a D).2 c))).trans (g D c)⟩
def Rt (P:Program) (fn:Func) (B:World) (S:Nat→Prop) (h:A4) (post:Value→(Nat→Prop)→A4→Prop):AP:=λa w=>
 ∃Ds:List Nat,a.defers=Su Ds∧Ds.Nodup∧(∀D,D∈Ds→w.heap[D]? =some (.deferred (some [])))∧
  ∀c:World,c.os=w.os→c.tape=w.tape→c.output=w.output→c.heap.size=w.heap.size→(∀b,b∉Ds→c.heap[b]? =w.heap[b]?)→
   ∃v,(results fn a.tmps).run P c= .ok v c∧∃S' h',Wd B h' c∧CX S h S' h'∧post v S' h'
def Ut {w a:World}(g:a.heap.size=w.heap.size) (j:∀b,b∉([]:List Nat)→a.heap[b]? =w.heap[b]?):a.heap=w.heap:=by
 apply Array.ext g;intro i c d;have:=j i wY;rw[Aak c,Aak d] at this;exact wP this
def Wo {P:Program}{fn:Func}{B:World}{S:Nat→Prop}{h:A4}{post:Value→(Nat→Prop)→A4→Prop}{a:Act}{w:World}{v:Value}{S':Nat→Prop}{h':A4}(hd:a.defers=[]) (g:∀w:World,Wd B h' w→(results fn a.tmps).run P w= .ok v w) (c:Wd B h' w) (e:CX S h S' h') (k:post v S' h'):Rt P fn B S h post a w:=
 ⟨[],hd,List.nodup_nil,λD i=>(by cases i),λd j l m n o=>by
  have p:=Ut n o;have b:Wd B h' d:=⟨p.trans c.heap,j.trans c.os,l.trans c.tape,m.trans c.out⟩
  exact⟨v,g d b,S',h',b,e,k⟩⟩
def YE {P:Program}{fn:Func}{c:Array Value}{R:Ending→World→Prop}:∀(Ds:List Nat) (w:World),Ds.Nodup→(∀D,D∈Ds→w.heap[D]? =some (.deferred (some [])))→
  (∀a:World,a.os=w.os→a.tape=w.tape→a.output=w.output→a.heap.size=w.heap.size→(∀b,b∉Ds→a.heap[b]? =w.heap[b]?)→∃v,(results fn c).run P a= .ok v a∧R (.returned v) a)→
  LeavesInM Fence.wide 0 P fn c R (Su Ds) .returning w
 |[],w,_,_,k=>by
  obtain⟨v,g,i⟩:=k w rfl rfl rfl rfl λ_ _=>rfl;exact⟨v,g,i⟩
 |D::Ds,w,p,n,k=>by
  obtain⟨j,l⟩:=zH.1 p;have hd:=n D (xL ..);have m:(w.putObj D (.deferred none)).heap.size=w.heap.size:=by simp [World.putObj]
  refine⟨by simp,.inl ⟨D,_,rfl,run_takeDeferred hd,YE Ds _ l (λq d=>?_) λa g i s t u=>k a g i s (t.trans m) λb o=>?_⟩⟩
  ·rw[World.putObj_heap_other (λe=>j (by rw[←e];exact d))];exact n q (xP _ d)
  ·rw[u b λh=>o (xP _ h),World.putObj_heap_other (λe=>o (by rw[e];exact xL ..))]
def CA.intro {P f fn c l S h post}(n:Nat) (j:P.funcs[f]? =some fn) (m:fn.body=some c) (o:fn.ntmps=n) (p:l.length≤n)
  (k:∀B w a,Wd B h w→Fr (n,[]) a (XM 0 l)→W P [] (Rt P fn B S h post) [c] (Rt P fn B S h post) a w):CA P f l.toArray S h post:=by
 intro B w s;subst o;refine(callsIn_wide (n:=0)).1 (callsIn_of_wp_marks j m trivial (wpIn_mono (k B w _ s (Fr.args p) none (.inl rfl)) λe g b q=>?_));have d:Rt P fn B S h post g b→LeavesInM Fence.wide 0 P fn g.tmps (λe b=>∃v S' h',e= .returned v∧Wd B h' b∧CX S h S' h'∧post v S' h') g.defers .returning b:=by
  rintro⟨Ds,t,u,x,y⟩;rw[t];refine YE Ds b u x λz A C D F G=>?_;obtain⟨v,H,S',h',I,J,K⟩:=y z A C D F G;exact⟨v,H,v,S',h',rfl,I,J,K⟩
 cases e with
 |normal=>exact d q
 |ret=>exact d q
 |exit i=>simp only[Qx,fJ] at q
 |goto l=>exact q.elim
 |panic c=>exact q.elim
 |outgrown=>exact q.elim
section
variable {P:Program}{fn:Func}{B:World}{S S':Nat→Prop}{h h':A4}{post:Value→(Nat→Prop)→A4→Prop}{n:FN}{a:Act}{m:List (Nat×Value)}{w:World}
def rt1 {k:Nat}{t v}(b:Fr (k,[]) a m) (c:fn.results= #[.tmp t]) (d:lk m t=some v) (g:Wd B h' w) (e:CX S h S' h') (k:post v S' h'):Rt P fn B S h post a w:=by
 refine Wo b.dfr (λw _=>?_) g e k;rw[results_tmp c];have:=b.eval (X:= .tmp t) d;simp only[Act.eval] at this;rw[this]
def rt0 {k:Nat}(b:Fr (k,[]) a m) (c:fn.results= #[]) (d:Wd B h' w) (e:CX S h S' h') (k:post (.tuple #[]) S' h'):Rt P fn B S h post a w:=
 Wo b.dfr (λw _=>results_none c _ _ _) d e k
end
def YK {n:FN}{a:Act}{m:List (Nat×Value)}(g:Fr n a m) {xs:Array Operand}{args:List Value}(b:xs.toList.mapM (CF m)=some args):xs.map a.eval=args.toArray:=by
 obtain⟨l⟩:=xs;simp only at b;have:l.map a.eval=args:=by
  induction l generalizing args with
  |nil=>simp at b;subst b;rfl
  |cons x l i=>
   simp only[Aal,Aba,yW] at b;obtain⟨y,j,k,d,c⟩:=b;simp only[Option.pure_def,xO] at c;subst c;simp only[xQ,g.eval j,i d]
 rw[←this];simp
def BK (P:Program) (f:FuncId):Bool:=
 match P.funcs[f]? with
 |some fn=> !(fn.name== "runtime.NumGoroutine")&&fn.body.isSome
 |none=>false
def WB {P:Program}{n:FN}{a:Act}{m:List (Nat×Value)}{w:World}{d:Option Nat}{f:Nat}{ty:TypeId}{c:String}{o:Array Edge}{X:Operand}{xs:Array Operand}{g:Array TypeId}
  {args vs:List Value} {first cap:Array Value}
  (l:Fr n a m) (p:CF m X=some (.func (.func f) first cap)) (i:xs.toList.mapM (CF m)=some args) (j:first.toList++args++cap.toList=vs) (b:BK P f=true):
  (execOp a.eval ⟨d,.call ⟨.value X,xs,g⟩,ty,c,o,none⟩).run P w= .ok (.enter f vs.toArray) w:=by
 have q:first++args.toArray++cap=vs.toArray:=by
  rw[←j];apply Array.ext';simp
 unfold BK at b;split at b
 ·rename_i fn k;simp only[wI,xC] at b;have s:¬fn.name= "runtime.NumGoroutine" :=by simpa using b.1
  have t:¬fn.body=none:=by intro h0;rw[h0] at b;simp at b
  simp only[execOp,resolve,l.eval p,Deferred.ofValue,YK l i];simp [invoke,callFunc,k,s,t,q]
 ·cases b
def aX {P:Program}{ops:Array Oper}{Q:Exit→Act→World→Prop}{n:FN}{a:Act}{m:List (Nat×Value)}{b:List Oper}{d f:Nat}{ty:TypeId}{c:String}{p:Array Edge}{X:Operand}{xs:Array Operand}{g:Array TypeId}
  {args vs:List Value} {first cap:Array Value} {S h B w} {post:Value→(Nat→Prop)→A4→Prop}
  (o:Fr n a m) (q:CF m X=some (.func (.func f) first cap)) (i:xs.toList.mapM (CF m)=some args) (j:first.toList++args++cap.toList=vs) (l:BK P f=true) (hd:Nat.blt d n.1=true)
  (s:Wd B h w) (t:CA P f vs.toArray S h post)
  (k:∀v a w S' h',Fr n a ((d,v)::m)→Wd B h' w→CX S h S' h'→post v S' h'→wpList P ops Q b a w):
  wpList P ops Q (⟨some d,.call ⟨.value X,xs,g⟩,ty,c,p,none⟩::b) a w:=by
 refine wpList_plain rfl λK u=>?_;unfold Oper.wp;rw[WB o q i j l];refine(t B w s).mono λe x ⟨v,S',h',y,z,A,C⟩=>?_;subst y;exact u _ _ (k v _ x S' h' (o.put hd v) z A C)
def kO {P:Program}{ops:Array Oper}{Q:Act→Prop}{n:FN}{a:Act}{m:List (Nat×Value)}{c:List Oper}{d f:Nat}{ty:TypeId}{g:String}{x:Array Edge}{X:Operand}{xs:Array Operand}{i:Array TypeId}
  {args vs:List Value} {first cap:Array Value} {h B} {v:Value}
  (s:Fr n a m) (y:CF m X=some (.func (.func f) first cap)) (j:xs.toList.mapM (CF m)=some args) (l:first.toList++args++cap.toList=vs) (p:BK P f=true) (hd:Nat.blt d n.1=true)
  (z:∀h',HS h h'→CA P f vs.toArray (λb=>b<h'.size) h' (λu _ _=>u=v))
  (k:∀a,Fr n a ((d,v)::m)→wpQuiet P ops (Cl B h) Q c a):
  wpQuiet P ops (Cl B h) Q (⟨some d,.call ⟨.value X,xs,i⟩,ty,g,x,none⟩::c) a:=by
 unfold wpQuiet;rw[wG (by simp [Region.wanted])];refine⟨v,λw ⟨h',A,o⟩=>?_,k _ (s.put hd v)⟩;unfold Oper.quietAt;rw[WB s y j l p];refine⟨rfl,(z h' o B w A).mono λI J ⟨u,C,q,D,F,t,G⟩=>?_⟩;subst D;subst G;exact⟨rfl,q,F,o.trans ⟨t.siz,λb H=>t.same b H⟩⟩
def St.all (h:A4):St (λb=>b<h.size) [] h:=⟨λ_ x=>x,trivial⟩
def FV (P:Program) (t:TypeId):Option (List Value):=((P.info? t).bind (·.zero)).map (·.cells.toList)
def Bx (b:Nat) (T:TypeId) (cs:List Value):HP where
 holds:=λ_ F h=>(∀c,F c↔c=b)∧h[b]? =some (.cells cs.toArray T (0,0))
 loc:=λ⟨a,d⟩ _ e=>⟨a,(e _ (.inr ((a _).2 rfl))).trans d⟩
def Bx.cell {b T cs S F h}(k:(Bx b T cs).holds S F h) (j:Nat):Ji h ⟨b,j,none⟩=cs[j]? :=by simp [Ji,k.2]
def HZ (h:A4) (o:Obj) (b:Nat) (a:b<h.size):(h.push o)[b]? =h[b]? :=by rw[Array.getElem?_push,wF (by omega)]
def Lf (h:A4) (o:Obj):(h.push o)[h.size]? =some o:=by simp
def Wd.alloc {B h w}(k:Wd B h w) (o:Obj):Wd B (h.push o) (w.alloc o):=⟨by show(w.heap.push o)=_;rw[k.heap],k.os,k.tape,k.out⟩
def St.push {S L h}(c:St S L h) (T:TypeId) (cs:List Value):St S (Bx h.size T cs::L) (h.push (.cells cs.toArray T))∧CX S h S (h.push (.cells cs.toArray T)):=
 c.add (by simp) (λb a=>HZ _ _ _ a) ⟨λb=>b=h.size,⟨λ_=>yC,Lf _ _⟩,λb a=>by subst a;simp⟩
section
variable {P:Program}{ops:Array Oper}{Q:Exit→Act→World→Prop}{n:FN}{a:Act}{m:List (Nat×Value)}{rest:List Oper}
variable {d:Nat}{ty:TypeId}{pos:String}{af:Array Edge}{X:Operand}{B w:World}{h:A4}{S:Nat→Prop}{L:List HP}
def iG {T:TypeId}{v:Value}{cs:List Value}(g:Fr n a m) (j:CF m X=some v) (l:v.cells=cs.toArray) (hd:Nat.blt d n.1=true) (i:Wd B h w) (o:St S L h)
  (k:∀b a w h',Fr n a ((d,.pointer (some ⟨b,0,none⟩))::m)→Wd B h' w→St S (Bx b T cs::L) h'→CX S h S h'→wpList P ops Q rest a w):
  wpList P ops Q (⟨some d,.box T X,ty,pos,af,none⟩::rest) a w:=by
 refine wpList_plain rfl λK p=>?_;unfold Oper.wp;have c:(execOp a.eval ⟨some d,.box T X,ty,pos,af,none⟩).run P w= .ok (.value (.pointer (some ⟨w.heap.size,0,none⟩))) (w.alloc (.cells cs.toArray T)):=by
  simp [execOp,g.eval j,Instr.box,newVar,newRow,l]
 rw[c];obtain⟨q,s⟩:=o.push T cs;exact p _ _ (k _ _ _ _ (g.put hd _) (i.alloc _) (by rw[i.heap];exact q) s)
def lA {T:TypeId}{v:Value}{α}{r:BX α}{x:α}(z:Fr n a m) (A:CF m X=some v) (C:Rd S h r v x) (D:r.ag=false→r.sz=1) (hd:Nat.blt d n.1=true) (G:Wd B h w) (H:St S L h)
  (k:∀p a w i h',Fr n a ((d,p)::m)→Wd B h' w→St i L h'→CX S h i h'→Pt i h' r p x→wpList P ops Q rest a w):
  wpList P ops Q (⟨some d,.box T X,ty,pos,af,none⟩::rest) a w:=by
 obtain⟨cs,I,g⟩:=C;have J:v.cells=cs.toArray:=by
  subst I;unfold BX.val;cases l:r.ag with
  |true=>rfl
  |false=>
   have u:=r.len g;rw[D l] at u
   match cs,u,g with
   |[c],_,g=>
    have K:=r.one g c (by simp);cases c<;>first|rfl|(simp [Value.oneCell'] at K)
 refine iG z A J hd G H λb a w h' o q s e=>?_;obtain⟨F,y,U,M,t⟩:=s.pub .head;refine k _ a w _ h' o q M (e.trans t) ⟨cs,⟨⟨b,0,none⟩,rfl,rfl,.inr ((y.1 _).2 rfl),λj V=>?_⟩,r.mono (r.mono g e.sub e.same) t.sub t.same⟩;simp only[xM];exact Bx.cell y j
def vA {T:TypeId}{cs:List Value}(o:Fr n a m) (c:FV P T=some cs) (hd:Nat.blt d n.1=true) (l:Wd B h w) (p:St S L h)
  (k:∀b a w h',Fr n a ((d,.pointer (some ⟨b,0,none⟩))::m)→Wd B h' w→St S (Bx b T cs::L) h'→CX S h S h'→wpList P ops Q rest a w):
  wpList P ops Q (⟨some d,.alloc T,ty,pos,af,none⟩::rest) a w:=by
 refine wpList_plain rfl λK q=>?_;unfold Oper.wp;unfold FV at c;simp only[xZ,yW] at c;obtain⟨z,⟨i,s,c⟩,j⟩:=c;have t:z.cells=cs.toArray:=by rw[←j]
 have g:(execOp a.eval ⟨some d,.alloc T,ty,pos,af,none⟩).run P w= .ok (.value (.pointer (some ⟨w.heap.size,0,none⟩))) (w.alloc (.cells cs.toArray T)):=by
  simp [execOp,Instr.alloc,newVar,newRow,zeroValue,typeInfo,s,c,t]
 rw[g];obtain⟨u,v⟩:=p.push T cs;exact q _ _ (k _ _ _ _ (o.put hd _) (l.alloc _) (by rw[l.heap];exact u) v)
def JN (cs:List Value) (o:Nat) (vs:List Value):List Value:=cs.take o++vs++cs.drop (o+vs.length)
def TW (w:World) (i:Nat) (a c':Array Value) (T:TypeId) (c:w.heap[i]? =some (.cells a T (0,0))):
  ∃h',(w.setRow i c').heap=h'∧h'.size=w.heap.size∧h'[i]? =some (.cells c' T (0,0))∧∀b,b≠i→h'[b]? =w.heap[b]? :=by
 refine⟨_,rfl,?_,setRow_heap w i a _ T _ c,λb d=>setRow_other w i b _ d⟩;simp [World.setRow]
def uX {T d:TypeId}{Y:Operand}{b o:Nat}{v:Value}{cs vs cs':List Value}{A:List HP}{sz:Nat}{ag:Bool}(t:Fr n a m) (I:CF m X=some (.pointer (some ⟨b,o,none⟩))) (J:CF m Y=some v) (U:v.cells=vs.toArray) (V:∀u∈vs,u.oneCell'=true)
  (W:L5 P T sz ag=true) (x:vs.length=sz) (g:Nat.ble (o+sz) cs.length=true) (Z:JN cs o vs=cs') (j:Wd B h w) (C:St S L h) (r:Np L (Bx b d cs) (Bx b d cs') A)
  (k:∀a w h',Fr n a m→Wd B h' w→St S A h'→CX S h S h'→wpList P ops Q rest a w):
  wpList P ops Q (⟨none,.store T X Y,ty,pos,af,none⟩::rest) a w:=by
 refine wpList_plain rfl λK hK=>?_;unfold Oper.wp;obtain⟨M,p,_⟩:=r.pick;obtain⟨F,g1,g2,_⟩:=Sp.pick p C.2;have D:w.heap[b]? =some (.cells cs.toArray d (0,0)):=by rw[j.heap];exact g1.2
 obtain⟨i,dd,hi,hd,y,aa⟩:=Ro W;have l:=run_storeCells_at P b o d vs 0 cs.toArray w D (by simp;have:=zX g;omega) V;have q:(List.take (o+0) cs.toArray.toList++vs++List.drop (o+0+vs.length) cs.toArray.toList)=cs':=by rw[←Z];simp [JN]
 rw[q] at l;have s:(execOp a.eval ⟨none,.store T X Y,ty,pos,af,none⟩).run P w= .ok .skip (w.setRow b cs'.toArray):=by
  simp [execOp,t.eval I,t.eval J,Instr.storeAt,Instr.sureAddr,storeVar,U,SW hi,y,x,l]
 rw[s];obtain⟨h',e1,e2,e3,G⟩:=TW w b cs.toArray cs'.toArray d D;rw[j.heap] at e2 G;obtain⟨u1,u2⟩:=C.upd (h':=h') r (by omega) λF H k2=>⟨F,⟨H.1,e3⟩,λc z=> .inl z,λc _ z=>G c λe=>z ((H.1 c).2 e)⟩
 exact hK _ _ (k _ _ h' t ⟨e1,j.os,j.tape,j.out⟩ u1 u2)
end
def ZT (vs:List Value):∀(cs:List Value) (o k:Nat),o+k+vs.length≤cs.length→
  (vs.zipIdx k).foldl (λcs (p:Value×Nat)=>cs.set (o+p.2) p.1) cs=cs.take (o+k)++vs++cs.drop (o+k+vs.length):=by
 induction vs with
 |nil=>intro cs o k h;simp
 |cons v vs b=>
  intro cs o k h;simp only[Aaz] at h;simp only[List.zipIdx_cons,List.foldl_cons];rw[b (cs.set (o+k) v) o (k+1) (by simp;omega)];have a:o+k<cs.length:=by omega
  have c:o+(k+1)=(o+k)+1:=by omega
  have d:o+k+1+vs.length=o+k+(vs.length+1):=by omega
  rw[c,d,List.drop_set_of_lt (by omega),Aaz,yM (by simpa using a),List.getElem_set_self,List.take_set_of_le (by omega)];simp
def T1 (f:Nat→Nat):∀(l:List (Value×Nat)) (cs:List Value),
  l.foldl (λ(cs:Array Value) (p:Value×Nat)=>cs.setIfInBounds (f p.2) p.1) cs.toArray=(l.foldl (λcs (p:Value×Nat)=>cs.set (f p.2) p.1) cs).toArray
 |[],cs=>rfl
 |p::l,cs=>by
  simp only[List.foldl_cons];rw[List.setIfInBounds_toArray,T1 f l]
def N3 (b:List (Nat×Nat)):List Value→List (Nat×Value)→Option (List Value)
 |cs,[]=>some cs
 |cs,(i,v)::r=>match b[i]? with
  |none=>none
  |some (a,sz)=>cond (Nat.beq v.cells.toList.length sz&&Nat.ble (a+sz) cs.length) (N3 b (JN cs a v.cells.toList) r) none
def O0 (b:List (Nat×Nat)):∀(j:List (Nat×Value)) (cs cs':List Value),N3 b cs j=some cs'→Instr.fill (b.toArray[·]?) cs.toArray j=some cs'.toArray
 |[],cs,cs',h=>by simp [N3] at h;subst h;rfl
 |(i,v)::r,cs,cs',h=>by
  simp only[N3] at h;split at h
  ·cases h
  ·rename_i a sz k;cases c:(Nat.beq v.cells.toList.length sz&&Nat.ble (a+sz) cs.length) with
   |false=>rw[c] at h;cases h
   |true=>
    rw[c] at h;simp only[wD] at h;simp only[wI] at c;have l:v.cells.size=sz:=by simpa using wQ c.1
    have n:=zX c.2;have m:=O0 b r _ cs' h;have g:b.toArray[i]? =some (a,sz):=by simpa using k
    simp only[Instr.fill,g];rw[wF (by simp [l];omega)];have d:v.cells.zipIdx.foldl (λ(cs:Array Value) (p:Value×Nat)=>cs.setIfInBounds (a+p.2) p.1) cs.toArray=(JN cs a v.cells.toList).toArray:=by
     rw[←Array.foldl_toList,Array.toList_zipIdx,T1 (a+ ·),ZT _ _ _ _ (by simp;omega)];simp [JN]
    exact(wH (λx=>Instr.fill (b.toArray[·]?) x r) d).trans m
def Ug (P:Program) (T:TypeId):Option (List (Nat×Nat)×List Value):=
 match P.underlying T,FV P T with
 |some (.struct a),some z=>(a.toList.mapM (λf=>(P.info? f.type).map λi=>(f.offset,i.size))).map λb=>(b,z)
 |_,_=>none
def dB {P:Program}{T:TypeId}{pl z pv cs}(h:Ug P T=some (pl,z)) (g:N3 pl z pv=some cs):P.built T pv=some cs.toArray:=by
 unfold Ug at h;split at h
 ·rename_i n j k a;simp only[xZ,zY] at h;obtain⟨b,l,rfl,rfl⟩:=h;unfold FV at a;simp only[xZ,yW] at a;obtain⟨o,⟨i,m,c⟩,d⟩:=a;simp only[Program.built,m,k,c,l];have:=O0 b pv j cs g;rw[←d] at this;simpa using this
 ·cases h
def II:Value→Nat
 | .int _ _=>1| .bool _=>2| .string _=>3|_=>0
def VV:Value→Value→Bool
 | .int _ a,.int _ b=>decide (a=b)
 | .bool a,.bool b=>a==b
 | .string a,.string b=>a==b
 |_,_=>false
def M8:List Value→List Value→Bool
 |[],_=>true
 |_::_,[]=>true
 |a::r,b::s=>VV a b&&M8 r s
section
variable {P:Program}{ops:Array Oper}{C:World→Prop}{Q:Act→Prop}{n:FN}{a:Act}{m:List (Nat×Value)}{rest:List Oper}
variable {d:Nat}{ty:TypeId}{pos:String}{af:Array Edge}{X Y:Operand}
def eZ (m:List (Nat×Value)) (p:Nat×Operand):Option (Nat×Value):=(CF m p.2).map λv=>(p.1,v)
def qY {T:TypeId}{b:Array (Nat×Operand)}{pl z pv cs}(o:Fr n a m) (s:Ug P T=some (pl,z)) (c:b.toList.mapM (eZ m)=some pv) (q:N3 pl z pv=some cs) (hd:Nat.blt d n.1=true)
  (k:∀a,Fr n a ((d,.agg cs.toArray)::m)→wpQuiet P ops C Q rest a):wpQuiet P ops C Q (⟨some d,.build T b,ty,pos,af,none⟩::rest) a:=by
 refine HT o hd (λw _=>?_) k;have i:(b.map λ(p:Nat×Operand)=>(p.1,a.eval p.2)).toList=pv:=by
  obtain⟨l⟩:=b;simp only at c;simp only[List.map_toArray];clear q k
  induction l generalizing pv with
  |nil=>simp at c;subst c;rfl
  |cons x l t=>
   simp only[Aal,Aba,yW,eZ,xZ] at c;obtain⟨y,⟨v,u,rfl⟩,A,j,g⟩:=c;simp only[Option.pure_def,xO] at g;subst g;simp only[xQ,o.eval u,t j]
 have:=run_build (P:=P) w T (b.map λ(p:Nat×Operand)=>(p.1,a.eval p.2)) cs.toArray (by rw[i];exact dB s q);simp only[execOp,Sem.run_bind,this];rfl
def ZV (P:Program) (T:TypeId):Option (List Nat):=
 if P.stoodInHeld T||P.eqGuardType P.depth T then none else
 match P.underlying T with
 |some (.struct a)=>a.toList.zipIdx.mapM λ(f,i)=>
  if f.name== "_" || !Nat.beq f.offset i then none else
  match P.underlying f.type with
  |some (.int _)=>some 1
  |some .bool=>some 2
  |some .string=>some 3
  |_=>none
 |_=>none
def Ot {w:World}:∀(D:List Field) (t:List Nat) (i d:Nat) (xs c:List Value),
  (D.zipIdx i).mapM (λ(p:Field×Nat)=>if p.1.name== "_" || !Nat.beq p.1.offset p.2 then none else
   match P.underlying p.1.type with
   |some (.int _)=>some 1
   |some .bool=>some 2
   |some .string=>some 3
   |_=>none)=some t→(xs.drop i).map II=t→(c.drop i).map II=t→(∀(j:Nat) (G:IntKind) (n1:Int) (Z:IntKind) (n2:Int),xs[j]? =some (Value.int G n1)→c[j]? =some (Value.int Z n2)→G=Z)→
  (Op.eqFields (d+1) xs.toArray c.toArray D).run P w= .ok (M8 (xs.drop i) (c.drop i)) w
 |[],t,i,d,xs,c,h,l,m,H=>by
  simp at h;subst h;have h1:xs.drop i=[]:=by simpa using l
  rw[h1];rfl
 |f::D,t,i,d,xs,c,h,l,m,H=>by
  simp only[List.zipIdx_cons,Aal,Aba,yW] at h;obtain⟨G,a,I,u,v⟩:=h;simp only[Option.pure_def,xO] at v;subst v;split at a
  ·cases a
  ·rename_i g;simp only[wZ,not_or,yN,xC,Bool.not_eq_false] at g;obtain⟨J,K⟩:=g;have A:=wQ K;have M:f.name≠ "_" :=by simpa using J
   cases n:xs.drop i with
   |nil=>rw[n] at l;simp at l
   |cons x xr=>
   cases o:c.drop i with
   |nil=>rw[o] at m;simp at m
   |cons y yr=>
   rw[n] at l;rw[o] at m;simp only[xQ,Aa0] at l m;have q:xs[i]? =some x:=by have:=wH (·[0]?) n;simpa using this
   have s:c[i]? =some y:=by have:=wH (·[0]?) o;simpa using this
   have B:xs.drop (i+1)=xr:=by have:=wH List.tail n;simpa [List.tail_drop] using this
   have C:c.drop (i+1)=yr:=by have:=wH List.tail o;simpa [List.tail_drop] using this
   have F:=Ot (w:=w) D I (i+1) d xs c u (by rw[B];exact l.2) (by rw[C];exact m.2) H;rw[B,C] at F;have b:∀Q,P.underlying f.type=some Q→Zb Q=false→∀(U:List Value) z,U[i]? =some z→(part f.type U.toArray f.offset).run P w= .ok z w:=by
    intro Q V b U z hz;simp [part,Qe V,b,A,hz]
   simp only[Op.eqFields,wG M,Sem.run_bind,M8];split at a
   ·rename_i kk k;simp only[xO] at a;subst a;rw[b _ k rfl xs x q];simp only[Result.andThen_ok];rw[b _ k rfl c y s];simp only[Result.andThen_ok];cases x<;>simp [II] at l;cases y<;>simp [II] at m;rename_i ka W kb nb;have:=H i ka W kb nb q s;subst this;rw[run_equalIn_int w d f.type ka kk W nb k];simp only[Result.andThen_ok,VV,Sem.run_ite,Sem.run_pure];rw[Rz];cases decide (W=nb)<;>simp [F]
   ·rename_i k;simp only[xO] at a;subst a;rw[b _ k rfl xs x q];simp only[Result.andThen_ok];rw[b _ k rfl c y s];simp only[Result.andThen_ok];cases x<;>simp [II] at l;cases y<;>simp [II] at m;rw[run_equalIn_bool' w d f.type _ _ k];simp only[Result.andThen_ok,VV,Sem.run_ite,Sem.run_pure];rename_i X Y;cases (X==Y)<;>simp [F]
   ·rename_i k;simp only[xO] at a;subst a;rw[b _ k rfl xs x q];simp only[Result.andThen_ok];rw[b _ k rfl c y s];simp only[Result.andThen_ok];cases x<;>simp [II] at l;cases y<;>simp [II] at m;rw[run_equalIn_string w d f.type _ _ k];simp only[Result.andThen_ok,VV,Sem.run_ite,Sem.run_pure];rename_i X Y;rw[beq_toListBytes];cases (X.toList==Y.toList)<;>simp [F]
   ·cases a
def OT:List Value→List Value→Bool
 | .int k _::r,.int l _::s=>decide (k=l)&&OT r s
 |_::r,_::s=>OT r s
 |_,_=>true
def RS:∀(xs p:List Value),OT xs p=true→∀(j:Nat) (c:IntKind) (m:Int) (d:IntKind) (n:Int),xs[j]? =some (Value.int c m)→p[j]? =some (Value.int d n)→c=d
 |[],_,_,j,_,_,_,_,h,_=>by simp at h
 |_::_,[],_,j,_,_,_,_,_,h=>by simp at h
 |x::r,y::s,h,0,c,m,d,n,g,i=>by
  simp only[zI,xO] at g i;subst g;subst i;simp only[OT,wI,wW] at h;exact h.1
 |x::r,y::s,h,j+1,c,m,d,n,g,i=>by
  simp only[zJ] at g i;refine RS r s ?_ j c m d n g i;unfold OT at h;split at h
  ·rename_i k l;simp only[wI] at h;injection k with k a;injection l with l b
   subst a;subst b;exact h.2
  ·rename_i k l;injection k with k a;injection l with l b
   subst a;subst b;exact h
  ·rename_i q o;exact absurd rfl (o _ _ _ _ rfl)
def T4 {T:TypeId}{c:List Nat}{xs a:List Value}{w:World}(h:ZV P T=some c) (k:xs.map II=c) (l:a.map II=c) (m:OT xs a=true):
  (Op.equalIn 10000 T (.agg xs.toArray) (.agg a.toArray)).run P w= .ok (M8 xs a) w∧∀(d:BinOp) (x y:Operand),(eqGuard d T x y (.agg xs.toArray) (.agg a.toArray)).run P w= .ok () w:=by
 unfold ZV at h;split at h
 ·cases h
 ·rename_i g;simp only[wZ,not_or,yN] at g;split at h
  ·rename_i i j;refine⟨?_,λd x y=>run_eqGuard_agg w d T x y _ _ g.2⟩;have b:P.fieldsOf T=i:=by simp [Program.fieldsOf,j]
   have:=run_equalIn_struct (P:=P) w 9999 T xs.toArray a.toArray (by rw[b];exact j) g.1;rw[this,b];exact Ot i.toList c 0 9998 xs a h (by simpa using k) (by simpa using l) (RS xs a m)
  ·cases h
def qW {T t2:TypeId}{ks xs ys}(b:Fr n a m) (i:CF m X=some (.agg xs)) (j:CF m Y=some (.agg ys)) (l:ZV P T=some ks) (o:xs.toList.map II=ks) (p:ys.toList.map II=ks) (q:OT xs.toList ys.toList=true) (hd:Nat.blt d n.1=true)
  (k:∀a,Fr n a ((d,.bool (M8 xs.toList ys.toList))::m)→wpQuiet P ops C Q rest a):wpQuiet P ops C Q (⟨some d,.binOp .eql T X Y t2,ty,pos,af,none⟩::rest) a:=
 HT b hd (λw _=>by
  obtain⟨c,g⟩:=T4 (w:=w) l o p q;simp only[Array.toArray_toList] at c g;simp [execOp,b.eval i,b.eval j,g,run_eql_struct,c]) k
def qF {T t2:TypeId}{ks xs ys}(b:Fr n a m) (i:CF m X=some (.agg xs)) (j:CF m Y=some (.agg ys)) (l:ZV P T=some ks) (o:xs.toList.map II=ks) (p:ys.toList.map II=ks) (q:OT xs.toList ys.toList=true) (hd:Nat.blt d n.1=true)
  (k:∀a,Fr n a ((d,.bool (!M8 xs.toList ys.toList))::m)→wpQuiet P ops C Q rest a):wpQuiet P ops C Q (⟨some d,.binOp .neq T X Y t2,ty,pos,af,none⟩::rest) a:=
 HT b hd (λw _=>by
  obtain⟨c,g⟩:=T4 (w:=w) l o p q;simp only[Array.toArray_toList] at c g;simp [execOp,b.eval i,b.eval j,g,run_neq_struct,c]) k
def qP {S:Nat→Prop}{L:List HP}{h:A4}{t T b o sz:Nat}{ag:Bool}{cs vs:List Value}(q:CK C h) (s:St S L h) (l:Fr n a m) (u:CF m X=some (.pointer (some ⟨b,o,none⟩))) (v:Bx b T cs∈L) (x:(cs.drop o).take sz=vs) (y:Nat.beq vs.length sz=true) (z:L5 P t sz ag=true) (A:(ag||Nat.beq sz 1)=true) (hd:Nat.blt d n.1=true)
  (k:∀a,Fr n a ((d,if ag then .agg vs.toArray else vs.headD undef)::m)→wpQuiet P ops C Q rest a):wpQuiet P ops C Q (⟨some d,.load t X,ty,pos,af,none⟩::rest) a:=by
 refine HT l hd (λw B=>?_) k;obtain⟨F,c,i⟩:=s.get v;have D:(Bx b T cs).holds S F w.heap:=⟨c.1,(q w B b (i b ((c.1 b).2 rfl)).1).trans c.2⟩
 have g:=wQ y;have:=Oq (P:=P) (w:=w) (S:=λ_=>True) (p:= .pointer (some ⟨b,o,none⟩)) (cs:=vs) (sz:=sz) (ag:=ag) (t:=t) ⟨⟨b,o,none⟩,rfl,rfl,trivial,λj G=>by
  rw[Bx.cell D,←x,yR (by omega),yS]⟩ g z (λe=>by subst e;simpa using A)
 simp [execOp,l.eval u,this]
end
end Go.Proofs.YtibidnaedddfdaaGreat
