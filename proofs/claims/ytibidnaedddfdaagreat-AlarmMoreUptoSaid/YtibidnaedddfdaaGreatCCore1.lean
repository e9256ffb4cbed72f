import Derived.WalkKit
import Derived.WalkSpells
import Derived.WalkLawsBesides
import Derived.Deep.QuietTactic
import Derived.KernelRfl
namespace Go.Proofs.YtibidnaedddfdaaGreat
set_option linter.unusedSimpArgs false
set_option linter.unusedVariables false
theorem O {α:Sort _} {a:α}:a=a:=rfl
open Go.RowKit
abbrev AX:=Array Obj
def lk:List (Nat×Value)→Nat→Option Value
 |[],_=>none
 |(i,v)::r,j=>cond (Nat.beq i j) (some v) (lk r j)
abbrev FN:=Nat×List Deferred
structure Fr (n:FN) (a:Act) (m:List (Nat×Value)):Prop where
 dfr:a.defers=n.2
 siz:a.tmps.size=n.1
 at_:∀i v,lk m i=some v→a.tmps[i]? =some v
def BP (m:List (Nat×Value)):Operand→Option Value
 | .tmp t=>lk m t
 | .const v=>some v
 | .global g=>some (.pointer (some ⟨g,0,none⟩))
 | .func f=>some (.func (.func f) #[] #[])
theorem Fr.eval {n a m X v}(h:Fr n a m) (hx:BP m X=some v):a.eval X=v:=by
 cases X with
 |tmp t=>
  have:=h.at_ t v hx
  simp [Act.eval,Array.getD_eq_getD_getElem?,this]
 |const u=>simpa [BP,Act.eval] using hx
 |global g=>simpa [BP,Act.eval] using hx
 |func f=>simpa [BP,Act.eval] using hx
theorem Fr.put {n a m d}(h:Fr n a m) (hd:Nat.blt d n.1=true) (v:Value):Fr n (a.put (some d) v) ((d,v)::m):=by
 have hd':d<n.1:=(by simpa [Nat.blt] using hd:d+1≤n.1)
 refine⟨by simpa [Act.put] using h.dfr,by simpa [Act.put] using h.siz,λi u hu=>?_⟩
 simp only[Act.put,Array.getElem?_setIfInBounds]
 simp only[lk] at hu
 by_cases e:d=i
 ·subst e
  have:Nat.beq d d=true:=by simp
  rw[this] at hu
  simp only[cond_true,Option.some.injEq] at hu
  subst hu
  simp [h.siz,hd']
 ·have:Nat.beq d i=false:=by
   cases hb:Nat.beq d i with
   |false=>rfl
   |true=>exact absurd (Nat.eq_of_beq_eq_true hb) e
  rw[this] at hu
  simp only[cond_false] at hu
  rw[if_neg e]
  exact h.at_ i u hu
def PJ (m:List (Nat×Value)):List (Nat×Value)→Prop
 |[]=>True
 |e::r=>lk m e.1=some e.2∧PJ m r
theorem Fr.sub {n a m m'}(h:Fr n a m) (hs:PJ m m'):Fr n a m':=by
 refine⟨h.dfr,h.siz,λi v hi=>h.at_ i v ?_⟩
 induction m' with
 |nil=>simp [lk] at hi
 |cons e r ih=>
  obtain⟨j,u⟩:=e
  simp only[lk] at hi
  cases hb:Nat.beq j i with
  |true=>
   rw[hb] at hi
   simp only[cond_true,Option.some.injEq] at hi
   have:=Nat.eq_of_beq_eq_true hb
   subst this;subst hi
   exact hs.1
  |false=>
   rw[hb] at hi
   simp only[cond_false] at hi
   exact ih hs.2 hi
def FO (h:AX) (a:Addr):Option Value:=
 match h[a.block]? with
 |some (.cells c _ _)=>if a.spot.isSome then none else c[a.off]?
 |_=>none
theorem G8 (w:World) (a:Addr):w.cell? a=FO w.heap a:=rfl
structure Wd (B:World) (h:AX) (w:World):Prop where
 heap:w.heap=h
 os:w.os=B.os
 tape:w.tape=B.tape
 out:w.output=B.output
structure Bc (S:Nat→Prop) (h:AX) (S':Nat→Prop) (h':AX):Prop where
 sub:∀b,S b→S' b
 same:∀b,S b→h'[b]? =h[b]?
 siz:h.size≤h'.size
theorem Bc.refl (S:Nat→Prop) (h:AX):Bc S h S h:=⟨λ_ x=>x,λ_ _=>rfl,Nat.le_refl _⟩
theorem Bc.trans {S h S' h' S'' h''}(x:Bc S h S' h') (y:Bc S' h' S'' h''):Bc S h S'' h'':=
 ⟨λb hb=>y.sub b (x.sub b hb),λb hb=>(y.same b (x.sub b hb)).trans (x.same b hb),Nat.le_trans x.siz y.siz⟩
theorem N5 {h h':AX}{a:Addr}(e:h'[a.block]? =h[a.block]?):FO h' a=FO h a:=by simp [FO,e]
structure HP where
 holds:(Nat→Prop)→(Nat→Prop)→AX→Prop
 loc:∀{S S' F h h'},holds S F h→(∀b,S b→S' b)→(∀b,S b∨F b→h'[b]? =h[b]?)→holds S' F h'
def Sp (S:Nat→Prop):List HP→AX→(Nat→Prop)→Prop
 |[],_,_=>True
 |H::L,h,A=>∃F,H.holds S F h∧(∀b,F b→A b)∧Sp S L h (λb=>A b∧¬F b)
def St (S:Nat→Prop) (L:List HP) (h:AX):Prop:=(∀b,S b→b<h.size)∧Sp S L h (λb=>b<h.size∧¬S b)
theorem Sp.mono {S:Nat→Prop}{L h}:∀{A A':Nat→Prop},Sp S L h A→(∀b,A b→A' b)→Sp S L h A':=by
 induction L with
 |nil=>intros;trivial
 |cons H L ih=>
  rintro A A' ⟨F,h1,h2,h3⟩ ha
  exact⟨F,h1,λb hb=>ha b (h2 b hb),ih h3 λb hb=>⟨ha b hb.1,hb.2⟩⟩
theorem Sp.ext {S S':Nat→Prop}{L h h'}:∀{A A':Nat→Prop},Sp S L h A→(∀b,S b→S' b)→(∀b,S b∨A b→h'[b]? =h[b]?)→(∀b,A b→A' b)→Sp S' L h' A':=by
 induction L with
 |nil=>intros;trivial
 |cons H L ih=>
  rintro A A' ⟨F,h1,h2,h3⟩ hs he ha
  refine⟨F,H.loc h1 hs λb hb=>he b (hb.imp_right (h2 b)),λb hb=>ha b (h2 b hb),?_⟩
  exact ih h3 hs (λb hb=>he b (hb.imp_right (·.1))) λb hb=>⟨ha b hb.1,hb.2⟩
inductive IZ:List HP→HP→HP→List HP→Prop
 |head {L H H'}:IZ (H::L) H H' (H'::L)
 |tail {K L H H' L2}:IZ L H H' L2→IZ (K::L) H H' (K::L2)
inductive L7:List HP→HP→List HP→Prop
 |head {L H}:L7 (H::L) H L
 |tail {K L H L2}:L7 L H L2→L7 (K::L) H (K::L2)
theorem Sp.pick {S:Nat→Prop}{h}{L L2:List HP}{H:HP}(p:L7 L H L2):∀{A:Nat→Prop},Sp S L h A→Sp S (H::L2) h A:=by
 induction p with
 |head=>exact id
 |tail p ih=>
  rintro A ⟨F,h1,h2,h3⟩
  obtain⟨G,g1,g2,g3⟩:=ih h3
  refine⟨G,g1,λb hb=>(g2 b hb).1,F,h1,λb hb=>⟨h2 b hb,λhg=>(g2 b hg).2 hb⟩,g3.mono λb hb=>⟨⟨hb.1.1,hb.2⟩,hb.1.2⟩⟩
theorem Kl {S:Nat→Prop}{h}{L L2:List HP}{H:HP}(p:L7 L H L2):∀{A:Nat→Prop},Sp S (H::L2) h A→Sp S L h A:=by
 induction p with
 |head=>exact id
 |tail p ih=>
  rintro A ⟨G,g1,g2,F,h1,h2,h3⟩
  refine⟨F,h1,λb hb=>(h2 b hb).1,ih ⟨G,g1,λb hb=>⟨g2 b hb,λhf=>(h2 b hf).2 hb⟩,h3.mono λb hb=>⟨⟨hb.1.1,hb.2⟩,hb.1.2⟩⟩⟩
theorem IZ.pick {L H H' L2}(r:IZ L H H' L2):∃M,L7 L H M∧L7 L2 H' M:=by
 induction r with
 |head=>exact⟨_,.head,.head⟩
 |tail r ih=>obtain⟨M,p,q⟩:=ih;exact⟨_,.tail p,.tail q⟩
theorem Sp.get {S:Nat→Prop}{h}{L:List HP}{H:HP}{A:Nat→Prop}(hm:H∈L) (hs:Sp S L h A):∃F,H.holds S F h∧∀b,F b→A b:=by
 induction L generalizing A with
 |nil=>cases hm
 |cons K L ih=>
  obtain⟨F,h1,h2,h3⟩:=hs
  cases hm with
  |head=>exact⟨F,h1,h2⟩
  |tail _ hm=>obtain⟨G,g1,g2⟩:=ih hm h3;exact⟨G,g1,λb hb=>(g2 b hb).1⟩
theorem St.get {S L h H}(hs:St S L h) (hm:H∈L):∃F,H.holds S F h∧∀b,F b→b<h.size∧¬S b:=Sp.get hm hs.2
theorem St.upd {S L h H H' L2 h'}(hs:St S L h) (r:IZ L H H' L2) (hz:h.size≤h'.size)
  (k:∀F,H.holds S F h→(∀b,F b→b<h.size∧¬S b)→∃F',H'.holds S F' h'∧(∀b,F' b→F b∨(h.size≤b∧b<h'.size))∧∀b,b<h.size→¬F b→h'[b]? =h[b]?):
  St S L2 h'∧Bc S h S h':=by
 obtain⟨M,p,q⟩:=r.pick
 obtain⟨F,h1,h2,h3⟩:=Sp.pick p hs.2
 obtain⟨F',k1,k2,k3⟩:=k F h1 h2
 have hS:∀b,S b→h'[b]? =h[b]? :=λb hb=>k3 b (hs.1 b hb) λhf=>(h2 b hf).2 hb
 refine⟨⟨λb hb=>Nat.lt_of_lt_of_le (hs.1 b hb) hz,?_⟩,λ_ x=>x,hS,hz⟩
 refine Kl q ⟨F',k1,λb hb=>?_,?_⟩
 ·rcases k2 b hb with hf|⟨hl,hu⟩
  ·exact⟨Nat.lt_of_lt_of_le (h2 b hf).1 hz,(h2 b hf).2⟩
  ·exact⟨hu,λhb'=>absurd (hs.1 b hb') (by omega)⟩
 ·refine Sp.ext h3 (λ_ x=>x) (λb hb=>?_) λb hb=>⟨⟨Nat.lt_of_lt_of_le hb.1.1 hz,hb.1.2⟩,λhf'=>?_⟩
  ·rcases hb with hb|hb
   ·exact hS b hb
   ·exact k3 b hb.1.1 hb.2
  ·rcases k2 b hf' with hf|⟨hl,_⟩
   ·exact hb.2 hf
   ·exact absurd hb.1.1 (by omega)
theorem St.add {S L h H' h'}(hs:St S L h) (hz:h.size≤h'.size) (hk:∀b,b<h.size→h'[b]? =h[b]?)
  (k:∃F',H'.holds S F' h'∧∀b,F' b→h.size≤b∧b<h'.size):St S (H'::L) h'∧Bc S h S h':=by
 obtain⟨F',k1,k2⟩:=k
 refine⟨⟨λb hb=>Nat.lt_of_lt_of_le (hs.1 b hb) hz,F',k1,λb hb=>⟨(k2 b hb).2,λhb'=>absurd (hs.1 b hb') (by have:=(k2 b hb).1;omega)⟩,?_⟩,λ_ x=>x,λb hb=>hk b (hs.1 b hb),hz⟩
 refine Sp.ext hs.2 (λ_ x=>x) (λb hb=>hk b (hb.elim (hs.1 b) (·.1))) λb hb=>⟨⟨Nat.lt_of_lt_of_le hb.1 hz,hb.2⟩,λhf=>absurd hb.1 (by have:=(k2 b hf).1;omega)⟩
theorem St.pub {S L h H L2}(hs:St S L h) (p:L7 L H L2):∃F,H.holds S F h∧(∀b,F b→b<h.size∧¬S b)∧St (λb=>S b∨F b) L2 h∧Bc S h (λb=>S b∨F b) h:=by
 obtain⟨F,h1,h2,h3⟩:=Sp.pick p hs.2
 refine⟨F,h1,h2,⟨λb hb=>hb.elim (hs.1 b) λhf=>(h2 b hf).1,?_⟩,λ_ x=> .inl x,λ_ _=>rfl,Nat.le_refl _⟩
 exact Sp.ext h3 (λ_ x=> .inl x) (λ_ _=>rfl) λb hb=>⟨hb.1.1,λh=>h.elim hb.1.2 hb.2⟩
theorem St.drop {S L h H L2}(hs:St S L h) (p:L7 L H L2):St S L2 h:=by
 obtain⟨F,h1,h2,h3⟩:=Sp.pick p hs.2
 exact⟨hs.1,h3.mono λb hb=>hb.1⟩
structure AV (α:Type) where
 sz:Nat
 ag:Bool
 rd:(Nat→Prop)→AX→List Value→α→Prop
 len:∀{S h cs x},rd S h cs x→cs.length=sz
 one:∀{S h cs x},rd S h cs x→∀v∈cs,v.oneCell'=true
 mono:∀{S S' h h' cs x},rd S h cs x→(∀b,S b→S' b)→(∀b,S b→h'[b]? =h[b]?)→rd S' h' cs x
def AV.val {α}(r:AV α) (cs:List Value):Value:=if r.ag then .agg cs.toArray else cs.headD undef
def Rd {α}(S:Nat→Prop) (h:AX) (r:AV α) (v:Value) (x:α):Prop:=∃cs,v=r.val cs∧r.rd S h cs x
theorem Rd.mono {α S h S' h'}{r:AV α}{v x}(k:Rd S h r v x) (e:Bc S h S' h'):Rd S' h' r v x:=
 let ⟨cs,h1,h2⟩:=k;⟨cs,h1,r.mono h2 e.sub e.same⟩
def Cells (S:Nat→Prop) (h:AX) (p:Value) (cs:List Value):Prop:=
 ∃a:Addr,p= .pointer (some a)∧a.spot=none∧S a.block∧∀j,j<cs.length→FO h ⟨a.block,a.off+j,none⟩=cs[j]?
theorem Cells.mono {S h S' h' p cs}(k:Cells S h p cs) (s:∀b,S b→S' b) (e:∀b,S b→h'[b]? =h[b]?):Cells S' h' p cs:=
 let ⟨a,h1,h2,h3,h4⟩:=k;⟨a,h1,h2,s _ h3,λj hj=>(N5 (a:=⟨a.block,a.off+j,none⟩) (e _ h3)).trans (h4 j hj)⟩
def K1 {α}(A S:Nat→Prop) (h:AX) (r:AV α) (p:Value) (x:α):Prop:=∃cs,Cells A h p cs∧r.rd S h cs x
abbrev Pt {α}(S:Nat→Prop) (h:AX) (r:AV α) (p:Value) (x:α):Prop:=K1 S S h r p x
theorem K1.mono {α S h S' h'}{r:AV α}{p x}(k:Pt S h r p x) (e:Bc S h S' h'):Pt S' h' r p x:=
 let ⟨cs,h1,h2⟩:=k;⟨cs,h1.mono e.sub e.same,r.mono h2 e.sub e.same⟩
def AB (n:Int):Prop:= -9223372036854775808≤n∧n≤9223372036854775807
def AV.int:AV Int where
 sz:=1
 ag:=false
 rd:=λ_ _ cs x=>cs=[.int .i64 x]∧AB x
 len:=λ⟨h,_⟩=>by rw[h];rfl
 one:=λ⟨h,_⟩ v hv=>by rw[h] at hv;simp at hv;rw[hv];rfl
 mono:=λh _ _=>h
def AV.bool:AV Bool where
 sz:=1
 ag:=false
 rd:=λ_ _ cs x=>cs=[.bool x]
 len:=λh=>by rw[h];rfl
 one:=λh v hv=>by rw[h] at hv;simp at hv;rw[hv];rfl
 mono:=λh _ _=>h
def AV.str:AV ByteArray where
 sz:=1
 ag:=false
 rd:=λ_ _ cs x=>cs=[.string x]∧x.size≤maxLen
 len:=λ⟨h,_⟩=>by rw[h];rfl
 one:=λ⟨h,_⟩ v hv=>by rw[h] at hv;simp at hv;rw[hv];rfl
 mono:=λh _ _=>h
def Sl {α}(S:Nat→Prop) (h:AX) (r:AV α) (v:Value) (l:List α):Prop:=
 (v= .slice none 0 0∧l=[])∨
 ∃(a:Addr) (cap:Nat),v= .slice (some a) l.length cap∧l.length≤cap∧cap≤maxLen∧
  ∀i x,l[i]? =some x→a.spot=none∧Pt S h r (.pointer (some ⟨a.block,a.off+i*r.sz,none⟩)) x
theorem Sl.mono {α S h S' h'}{r:AV α}{v l}(k:Sl S h r v l) (s:∀b,S b→S' b) (e:∀b,S b→h'[b]? =h[b]?):Sl S' h' r v l:=by
 rcases k with k|⟨a,cap,h1,h4,h5,h6⟩
 ·exact .inl k
 ·refine .inr ⟨a,cap,h1,h4,h5,λi x hi=>?_⟩
  obtain⟨hsp,cs,k1,k2⟩:=h6 i x hi
  exact⟨hsp,cs,k1.mono s e,r.mono k2 s e⟩
theorem Sl.len {α S h}{r:AV α}{v l}(k:Sl S h r v l):∃a cap,v= .slice a l.length cap∧l.length≤maxLen:=by
 rcases k with ⟨rfl,rfl⟩|⟨a,cap,h1,h4,h5,h6⟩
 ·exact⟨none,0,rfl,Nat.zero_le _⟩
 ·exact⟨some a,cap,h1,Nat.le_trans h4 h5⟩
def AV.sl {α}(r:AV α):AV (List α) where
 sz:=1
 ag:=false
 rd:=λS h cs l=>∃v,cs=[v]∧Sl S h r v l
 len:=λ⟨_,h,_⟩=>by rw[h];rfl
 one:=λ⟨u,h,k⟩ v hv=>by
  rw[h] at hv;simp at hv;rw[hv]
  rcases k with ⟨rfl,_⟩|⟨a,c,rfl,_⟩<;>rfl
 mono:=λ⟨v,h,k⟩ s e=>⟨v,h,k.mono s e⟩
theorem Sl.mono' {α S h S' h'}{r:AV α}{v l}(k:Sl S h r v l) (e:Bc S h S' h'):Sl S' h' r v l:=k.mono e.sub e.same
theorem Rd.int {S h v x}(k:Rd S h AV.int v x):v= .int .i64 x∧AB x:=by obtain⟨_,rfl,rfl,h⟩:=k;exact⟨rfl,h⟩
theorem Rd.bool {S h v x}(k:Rd S h AV.bool v x):v= .bool x:=by obtain⟨_,rfl,rfl⟩:=k;rfl
theorem Rd.str {S h v x}(k:Rd S h AV.str v x):v= .string x∧x.size≤maxLen:=by obtain⟨_,rfl,rfl,h⟩:=k;exact⟨rfl,h⟩
theorem Rd.sl {α S h v x}{r:AV α}(k:Rd S h r.sl v x):Sl S h r v x:=by obtain⟨_,rfl,_,rfl,h⟩:=k;exact h
theorem PK {α S h v x}{r:AV α}(k:Sl S h r v x):Rd S h r.sl v x:=⟨[v],rfl,v,rfl,k⟩
def EO {α β}(r:AV α) (o:Nat) (r':AV β) (f:α→β):Prop:=
 ∀{S h cs x},r.rd S h cs x→r'.rd S h ((cs.drop o).take r'.sz) (f x)
theorem K1.fld {α β A S h}{r:AV α}{r':AV β}{o f p x}(k:K1 A S h r p x) (hf:EO r o r' f):
  ∃a:Addr,p= .pointer (some a)∧K1 A S h r' (.pointer (some (a.add o))) (f x):=by
 obtain⟨cs,⟨a,rfl,h2,h3,h4⟩,h5⟩:=k
 refine⟨a,rfl,_,⟨a.add o,rfl,?_,?_,?_⟩,hf h5⟩
 ·unfold Addr.add;split<;>simp [h2]
 ·unfold Addr.add;split<;>exact h3
 ·intro j hj
  have hb:(a.add o).block=a.block:=by unfold Addr.add;split<;>rfl
  have ho:(a.add o).off=a.off+o:=by unfold Addr.add;split<;>simp_all
  rw[hb,ho]
  simp only[List.length_take,List.length_drop] at hj
  have:=h4 (o+j) (by omega)
  rw[Nat.add_assoc,this,List.getElem?_take_of_lt (by omega),List.getElem?_drop]
end Go.Proofs.YtibidnaedddfdaaGreat
