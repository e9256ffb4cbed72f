import Derived.WalkKit
import Derived.WalkSpells
import Derived.WalkLawsBesides
import Derived.Deep.QuietTactic
import Derived.KernelRfl
import Derived.Deep.LoopGhost
import Derived.Sort.LoopGhostIn
import Derived.TacticsIn
import Derived.OrdersIn
import Derived.RangeFuncLeaves
import Derived.RangeFuncNested
import Derived.Great.BuildSlice
namespace Go.Proofs.YtabonambpbofgaaGreat
set_option linter.all false
variable {A:Nat->Prop}{ag b draw:Bool}{p:Value}{T cap d e f j k:Nat}{B w:World}{o:Oper}{l:List Oper}{rd:Option Nat}{P:Program}{a:Act}{X Y:Operand}{c:Code}{C:World->Prop}{ops:Array Oper}{xs:Array Operand}{m:List (Nat×Value)}{g:String}{cs' vs:List Value}{ks:List Nat}
abbrev xq:=List Int
theorem Γ{p:Prop}(h:p:=by kernel_rfl):p:=h
theorem Ω{p:Prop}(h:p:=by omega):p:=h
theorem O{α:Sort _}{a:α}:a=a:=rfl
def Agm:=@Option.bind_some
def Agn:=@if_neg
def Ago:=@cond_true
def Agp:=@if_pos
def Agq:=@cond_false
def Agr:=@Nat.zero_le
def Ags:=@Option.some.inj
def Agt:=@congrArg
def Agu:=@Bool.and_eq_true
def Agv:=@List.mem_cons
def Agw:=@List.getElem?_eq_getElem
def Agx:=@decide_eq_false
def Agy:=@List.getElem_mem
def Agz:=@List.all_eq_true
def Ag0:=@List.getElem?_eq_some_iff
def Ag1:=@Nat.eq_of_beq_eq_true
def Ag2:=@List.contains_iff_mem
def Ag3:=@List.nil_append
def Ag4:=@List.cons_append
def Ag5:=@Nat.le_refl
def Ag6:=@Nat.lt_of_lt_of_le
def Ag7:=@Nat.lt_or_ge
def Ag8:=@decide_eq_true
def Ag9:=@List.map_cons
def Aha:=@List.not_mem_nil
def Ahb:=@decide_eq_true_eq
def Ahc:=@List.getD_eq_getElem?_getD
def Ahd:=@decide_eq_false_iff_not
def Ahe:=@List.take_length
def Ahf:=@List.mem_cons_self
def Ahg:=@Bool.or_eq_true
def Ahh:=@List.length_append
def Ahi:=@List.mem_append
def Ahj:=@List.getElem?_eq_none
def Ahk:=@Bool.or_eq_false_iff
def Ahl:=@Int.toNat_natCast
def Ahm:=@Bool.not_true
def Ahn:=@Bool.not_eq_true'
def Aho:=@List.mem_singleton
def Ahp:=@or_false
def Ahq:=@Int.le_refl
def Ahr:=@List.mem_map
def Ahs:=@List.sum_cons
def Aht:=@List.mem_cons_of_mem
def Ahu:=@Array.getElem?_eq_some_iff
def Ahv:=@Option.some.injEq
def Ahw:=@Nat.zero_add
def Ahx:=@List.mem_of_getElem?
def Ahy:=@List.mem_range
def Ahz:=@List.append_nil
def Ah0:=@List.append_assoc
def Ah1:=@List.ext_getElem?
def Ah2:=@Nat.le_trans
def Ah3:=@List.length_take
def Ah4:=@List.take_zero
def Ah5:=@List.map_append
def Ah6:=@Option.map_eq_some_iff
def Ah7:=@List.mem_filter
def Ah8:=@List.take_succ_eq_append_getElem
def Ah9:=@List.sum_append
def Aia:=@Nat.mul_le_mul_right
def Aib:=@Nat.add_mul
def Aic:=@Option.getD_some
def Aid:=@false_or
def Aie:=@of_decide_eq_true
def Aif:=@List.getElem?_take_of_lt
def Aig:=@List.getElem?_map
def Aih:=@Nat.mul_one
def Aii:=@Array.getElem?_setIfInBounds
def Aij:=@Nat.succ_mul
def Aik:=@Array.getD_eq_getD_getElem?
def Ail:=@Bool.false_eq_true
def Aim:=@if_false
def Ain:=@List.length_cons
def Aio:=@List.mem_iff_getElem?
def Aip:=@Nat.mod_lt
def Aiq:=@Option.bind_eq_some_iff
def Air:=@List.getElem?_cons_succ
def Ais:=@List.drop_eq_nil_of_le
def Ait:=@List.mem_append_left
def Aiu:=@List.getElem?_set_ne
def Aiv:=@List.getElem?_zipWith
def Aiw:=@List.getElem?_cons_zero
def Aix:=@Option.map_some
def Aiy:=@List.getElem?_replicate
def Aiz:=@List.getElem?_set_self
def Ai0:=@List.getElem?_drop
def Ai1:=@Bool.not_eq_false'
def Ai2:=@List.drop_eq_getElem_cons
def Ai3:=@List.map_congr_left
def Ai4:=@List.getElem?_take
def Ai5:=@List.filter_append
def Ai6:=@Nat.le_of_lt_succ
def Ai7:=@List.length_drop
def Ai8:=@Array.getElem?_eq_getElem
def Ai9:=@List.mapM_cons
def Aja:=@Prod.mk.injEq
def Ajb:=@Nat.mul_comm
def Ajc:=@Bool.false_or
def Ajd:=@Nat.min_eq_left
def Aje:=@List.find?_cons
def Ajf:=@Option.isSome_iff_exists
def Ajg:=@Int.mul_le_mul_of_nonneg_right
def Ajh:=@List.nodup_cons
def Aji:=@Nat.mod_eq_of_lt
def Ajj:=@Array.all_eq_true_iff_forall_mem
def Ajk:=@List.take_take
def Ajl:=@Classical.byContradiction
def Ajm:=@Nat.mul_le_mul
def Ajn:=@List.mem_of_mem_take
def Ajo:=@List.foldl_append
def Ajp:=@Option.bind_eq_bind
def Ajq:=@Option.pure_def
def Ajr:=@Nat.le_of_ble_eq_true
def Ajs:=@Option.isSome_none
def Ajt:=@List.length_map
def Aju:=@List.length_replicate
def Ajv:=@List.size_toArray
def Ajw:=@List.nodup_append
def Ajx:=@List.mem_filterMap
def Ajy:=@List.mem_append_right
def Ajz:=@Int.eq_ofNat_of_zero_le
def Aj0:=@List.find?_append
def Aj1:=@Nat.two_pow_pos
def Aj2:=@Nat.div_add_mod
def Aj3:=@Nat.lt_of_le_of_lt
def Aj4:=@List.mem_or_eq_of_mem_set
def Aj5:=@Array.getElem?_eq_none
def Aj6:=@List.getElem?_append_left
def Aj7:=@List.getElem?_append_right
def Aj8:=@Array.getElem?_setIfInBounds_ne
def Aj9:=@List.filter_eq_self
def Aka:=@List.pairwise_iff_getElem
def Akb:=@of_decide_eq_false
def Akc:=@Nat.div_lt_iff_lt_mul
def Akd:=@Nat.eq_zero_or_pos
def Ake:=@List.mem_iff_getElem
def Akf:=@List.filter_cons_of_neg
def Akg:=@Array.getElem?_append_left
def Akh:=@List.eq_nil_of_length_eq_zero
def Aki:=@List.getElem?_zip_eq_some
def Akj:=@List.filter_cons_of_pos
open Go.RowKit
abbrev AV:=Array Obj
variable {post:Value->(Nat->Prop)->AV->Prop}
def lk:List (Nat×Value)->Nat->Option Value
 |[],_=>none
 |(i,v)::r,j=>cond (Nat.beq i j) (some v) (lk r j)
abbrev FN:=Nat×List Deferred
variable {n:FN}
structure Fr(n:FN)(a:Act)(m:List (Nat×Value)):Prop where
 dfr:a.defers=n.2
 siz:a.tmps.size=n.1
 at_:∀i v,lk m i=some v->a.tmps[i]? =some v
def B5(m:List (Nat×Value)):Operand->Option Value
 | .tmp t=>lk m t
 | .const v=>some v
 | .global g=>some (.pointer (some ⟨g,0,none⟩))
 | .func f=>some (.func (.func f) #[] #[])
def Fr.eval{n a m X v}(c:Fr n a m)(b:B5 m X=some v):a.eval X=v:=by
 cases X with
 |tmp t=>
  have:=c.at_ t v b;simp[Act.eval,Aik,this]
 |const u=>simpa[B5,Act.eval]using b
 |global g=>simpa[B5,Act.eval]using b
 |func f=>simpa[B5,Act.eval]using b
def Fr.put{n a m d}(j:Fr n a m)(hd:Nat.blt d n.1=true)(v:Value):Fr n (a.put (some d) v) ((d,v)::m):=by
 have c:d<n.1:=(by simpa[Nat.blt]using hd:d+1<=n.1)
 refine⟨by simpa[Act.put]using j.dfr,by simpa[Act.put]using j.siz,λi u b=>?_⟩;simp only[Act.put,Aii];simp only[lk]at b;by_cases e:d=i
 ·subst e;have:Nat.beq d d=true:=by simp
  rw[this]at b;simp only[Ago,Ahv]at b;subst b;simp[j.siz,c]
 ·have:Nat.beq d i=false:=by
   cases g:Nat.beq d i with
   |false=>rfl
   |true=>exact absurd (Ag1 g) e
  rw[this]at b;simp only[Agq]at b;rw[Agn e];exact j.at_ i u b
def VZ(m:List (Nat×Value)):List (Nat×Value)->Prop
 |[]=>True
 |e::r=>lk m e.1=some e.2/\VZ m r
def Fr.sub{n a m m'}(k:Fr n a m)(d:VZ m m'):Fr n a m':=by
 refine⟨k.dfr,k.siz,λi v b=>k.at_ i v ?_⟩
 induction m' with
 |nil=>simp[lk]at b
 |cons e r g=>
  obtain⟨j,u⟩:=e;simp only[lk]at b;cases c:Nat.beq j i with
  |true=>
   rw[c]at b;simp only[Ago,Ahv]at b;have:=Ag1 c;subst this;subst b;exact d.1
  |false=>
   rw[c]at b;simp only[Agq]at b;exact g d.2 b
def KE(b:AV)(a:Addr):Option Value:=
 match b[a.block]? with
 |some (.cells c _ _)=>if a.spot.isSome then none else c[a.off]?
 |_=>none
def NI(w:World)(a:Addr):w.cell? a=KE w.heap a:=rfl
structure Wd(B:World)(h:AV)(w:World):Prop where
 heap:w.heap=h
 os:w.os=B.os
 tape:w.tape=B.tape
 out:w.output=B.output
structure CO(S:Nat->Prop)(h:AV)(S':Nat->Prop)(h':AV):Prop where
 sub:∀b,S b->S' b
 same:∀b,S b->h'[b]? =h[b]?
 siz:h.size<=h'.size
def CO.refl(S:Nat->Prop)(a:AV):CO S a S a:=⟨λ_ x=>x,λ_ _=>rfl,Ag5 _⟩
def CO.trans{S h S' h' S'' h''}(x:CO S h S' h')(y:CO S' h' S'' h''):CO S h S'' h'':=
 ⟨λb a=>y.sub b (x.sub b a),λb a=>(y.same b (x.sub b a)).trans (x.same b a),Ah2 x.siz y.siz⟩
def VV{b h':AV}{a:Addr}(e:h'[a.block]? =b[a.block]?):KE h' a=KE b a:=by simp[KE,e]
structure HP where
 holds:(Nat->Prop)->(Nat->Prop)->AV->Prop
 loc:∀{S S' F h h'},holds S F h->(∀b,S b->S' b)->(∀b,S b\/F b->h'[b]? =h[b]?)->holds S' F h'
def Sp(S:Nat->Prop):List HP->AV->(Nat->Prop)->Prop
 |[],_,_=>True
 |H::L,a,A=>∃F,H.holds S F a/\(∀b,F b->A b)/\Sp S L a (λb=>A b/\¬F b)
def St(S:Nat->Prop)(L:List HP)(a:AV):Prop:=(∀b,S b->b<a.size)/\Sp S L a (λb=>b<a.size/\¬S b)
def Sp.mono{S:Nat->Prop}{L h}:∀{A c:Nat->Prop},Sp S L h A->(∀b,A b->c b)->Sp S L h c:=by
 induction L with
 |nil=>intros;trivial
 |cons H L g=>
  rintro A c⟨F,i,j,k⟩ d;exact⟨F,i,λb a=>d b (j b a),g k λb a=>⟨d b a.1,a.2⟩⟩
def Sp.ext{S S':Nat->Prop}{L h h'}:∀{A c:Nat->Prop},Sp S L h A->(∀b,S b->S' b)->(∀b,S b\/A b->h'[b]? =h[b]?)->(∀b,A b->c b)->Sp S' L h' c:=by
 induction L with
 |nil=>intros;trivial
 |cons H L k=>
  rintro A c⟨F,l,d,m⟩ g i j;refine⟨F,H.loc l g λb a=>i b (a.imp_right (d b)),λb a=>j b (d b a),?_⟩;exact k m g (λb a=>i b (a.imp_right (·.1))) λb a=>⟨j b a.1,a.2⟩
inductive Nm:List HP->HP->HP->List HP->Prop
 |head {L H H'}:Nm (H::L) H H' (H'::L)
 |tail {K L H H' L2}:Nm L H H' L2->Nm (K::L) H H' (K::L2)
inductive RA:List HP->HP->List HP->Prop
 |head {L H}:RA (H::L) H L
 |tail {K L H L2}:RA L H L2->RA (K::L) H (K::L2)
def Sp.pick{S:Nat->Prop}{h}{L c:List HP}{H:HP}(p:RA L H c):∀{A:Nat->Prop},Sp S L h A->Sp S (H::c) h A:=by
 induction p with
 |head=>exact id
 |tail p g=>
  rintro A⟨F,i,j,k⟩;obtain⟨G,l,d,m⟩:=g k;refine⟨G,l,λb a=>(d b a).1,F,i,λb a=>⟨j b a,λn=>(d b n).2 a⟩,m.mono λb a=>⟨⟨a.1.1,a.2⟩,a.1.2⟩⟩
def O1{S:Nat->Prop}{h}{L c:List HP}{H:HP}(p:RA L H c):∀{A:Nat->Prop},Sp S (H::c) h A->Sp S L h A:=by
 induction p with
 |head=>exact id
 |tail p g=>
  rintro A⟨G,i,j,F,k,d,l⟩;refine⟨F,k,λb a=>(d b a).1,g ⟨G,i,λb a=>⟨j b a,λm=>(d b m).2 a⟩,l.mono λb a=>⟨⟨a.1.1,a.2⟩,a.1.2⟩⟩⟩
def Nm.pick{L H H' L2}(r:Nm L H H' L2):∃M,RA L H M/\RA L2 H' M:=by
 induction r with
 |head=>exact⟨_,.head,.head⟩
 |tail r a=>obtain⟨M,p,q⟩:=a;exact⟨_,.tail p,.tail q⟩
def Sp.get{S:Nat->Prop}{h}{L:List HP}{H:HP}(a:H∈L)(c:Sp S L h A):∃F,H.holds S F h/\∀b,F b->A b:=by
 induction L generalizing A with
 |nil=>cases a
 |cons K L d=>
  obtain⟨F,g,i,j⟩:=c;cases a with
  |head=>exact⟨F,g,i⟩
  |tail _ a=>obtain⟨G,k,l⟩:=d a j;exact⟨G,k,λb m=>(l b m).1⟩
def St.get{S L h H}(a:St S L h)(c:H∈L):∃F,H.holds S F h/\∀b,F b->b<h.size/\¬S b:=Sp.get c a.2
def St.upd{S L h H H' L2 h'}(d:St S L h)(r:Nm L H H' L2)(g:h.size<=h'.size)
  (k:∀F,H.holds S F h->(∀b,F b->b<h.size/\¬S b)->∃i,H'.holds S i h'/\(∀b,i b->F b\/(h.size<=b/\b<h'.size))/\∀b,b<h.size->¬F b->h'[b]? =h[b]?):
  St S L2 h'/\CO S h S h':=by
 obtain⟨M,p,q⟩:=r.pick;obtain⟨F,t,j,u⟩:=Sp.pick p d.2;obtain⟨i,v,n,o⟩:=k F t j;have s:∀b,S b->h'[b]? =h[b]? :=λb a=>o b (d.1 b a) λc=>(j b c).2 a;refine⟨⟨λb a=>Ag6 (d.1 b a) g,?_⟩,λ_ x=>x,s,g⟩;refine O1 q ⟨i,v,λb a=>?_,?_⟩
 ·rcases n b a with c|⟨hl,hu⟩
  ·exact⟨Ag6 (j b c).1 g,(j b c).2⟩
  ·exact⟨hu,λl=>absurd (d.1 b l) Ω⟩
 ·refine Sp.ext u (λ_ x=>x) (λb a=>?_) λb a=>⟨⟨Ag6 a.1.1 g,a.1.2⟩,λm=>?_⟩
  ·rcases a with a|a
   ·exact s b a
   ·exact o b a.1.1 a.2
  ·rcases n b m with c|⟨hl,_⟩
   ·exact a.2 c
   ·exact absurd a.1.1 Ω
def St.add{S L h H' h'}(c:St S L h)(g:h.size<=h'.size)(l:∀b,b<h.size->h'[b]? =h[b]?)
  (k:∃d,H'.holds S d h'/\∀b,d b->h.size<=b/\b<h'.size):St S (H'::L) h'/\CO S h S h':=by
 obtain⟨d,m,i⟩:=k;refine⟨⟨λb a=>Ag6 (c.1 b a) g,d,m,λb a=>⟨(i b a).2,λj=>absurd (c.1 b j) (by have:=(i b a).1;omega)⟩,?_⟩,λ_ x=>x,λb a=>l b (c.1 b a),g⟩;refine Sp.ext c.2 (λ_ x=>x) (λb a=>l b (a.elim (c.1 b) (·.1))) λb a=>⟨⟨Ag6 a.1 g,a.2⟩,λn=>absurd a.1 (by have:=(i b n).1;omega)⟩
def St.pub{S L k H L2}(c:St S L k)(p:RA L H L2):∃F,H.holds S F k/\(∀b,F b->b<k.size/\¬S b)/\St (λb=>S b\/F b) L2 k/\CO S k (λb=>S b\/F b) k:=by
 obtain⟨F,g,d,i⟩:=Sp.pick p c.2;refine⟨F,g,d,⟨λb a=>a.elim (c.1 b) λj=>(d b j).1,?_⟩,λ_ x=> .inl x,λ_ _=>rfl,Ag5 _⟩;exact Sp.ext i (λ_ x=> .inl x) (λ_ _=>rfl) λb a=>⟨a.1.1,λk=>k.elim a.1.2 a.2⟩
def St.drop{S L h H L2}(a:St S L h)(p:RA L H L2):St S L2 h:=by
 obtain⟨F,g,i,c⟩:=Sp.pick p a.2;exact⟨a.1,c.mono λb d=>d.1⟩
structure A9(α:Type) where
 sz:Nat
 ag:Bool
 rd:(Nat->Prop)->AV->List Value->α->Prop
 len:∀{S h cs x},rd S h cs x->cs.length=sz
 one:∀{S h cs x},rd S h cs x->∀v∈cs,v.oneCell'=true
 mono:∀{S S' h h' cs x},rd S h cs x->(∀b,S b->S' b)->(∀b,S b->h'[b]? =h[b]?)->rd S' h' cs x
def A9.val{α}(r:A9 α)(cs:List Value):Value:=if r.ag then .agg cs.toArray else cs.headD undef
def Rd{α}(S:Nat->Prop)(a:AV)(r:A9 α)(v:Value)(x:α):Prop:=∃cs,v=r.val cs/\r.rd S a cs x
def Rd.mono{α S h S' h'}{r:A9 α}{v x}(k:Rd S h r v x)(e:CO S h S' h'):Rd S' h' r v x:=
 let ⟨cs,a,b⟩:=k;⟨cs,a,r.mono b e.sub e.same⟩
def O4(S:Nat->Prop)(b:AV)(p:Value)(cs:List Value):Prop:=
 ∃a:Addr,p= .pointer (some a)/\a.spot=none/\S a.block/\∀j,j<cs.length->KE b ⟨a.block,a.off+j,none⟩=cs[j]?
def O4.mono{S h S' h' p cs}(k:O4 S h p cs)(s:∀b,S b->S' b)(e:∀b,S b->h'[b]? =h[b]?):O4 S' h' p cs:=
 let ⟨a,d,g,c,i⟩:=k;⟨a,d,g,s _ c,λj l=>(VV (a:=⟨a.block,a.off+j,none⟩) (e _ c)).trans (i j l)⟩
def OJ{α}(A S:Nat->Prop)(a:AV)(r:A9 α)(p:Value)(x:α):Prop:=∃cs,O4 A a p cs/\r.rd S a cs x
abbrev Pt{α}(S:Nat->Prop)(a:AV)(r:A9 α)(p:Value)(x:α):Prop:=OJ S S a r p x
def OJ.mono{α S h S' h'}{r:A9 α}{p x}(k:Pt S h r p x)(e:CO S h S' h'):Pt S' h' r p x:=
 let ⟨cs,a,b⟩:=k;⟨cs,a.mono e.sub e.same,r.mono b e.sub e.same⟩
def AB(n:Int):Prop:= -9223372036854775808<=n/\n<=9223372036854775807
def AC:A9 Int where
 sz:=1
 ag:=false
 rd:=λ_ _ cs x=>cs=[.int .i64 x]/\AB x
 len:=λ⟨b,_⟩=>by rw[b];rfl
 one:=λ⟨b,_⟩ v a=>by rw[b]at a;simp at a;rw[a];rfl
 mono:=λb _ _=>b
def A9.bool:A9 Bool where
 sz:=1
 ag:=false
 rd:=λ_ _ cs x=>cs=[.bool x]
 len:=λb=>by rw[b];rfl
 one:=λb v a=>by rw[b]at a;simp at a;rw[a];rfl
 mono:=λb _ _=>b
def A9.str:A9 ByteArray where
 sz:=1
 ag:=false
 rd:=λ_ _ cs x=>cs=[.string x]/\x.size<=maxLen
 len:=λ⟨b,_⟩=>by rw[b];rfl
 one:=λ⟨b,_⟩ v a=>by rw[b]at a;simp at a;rw[a];rfl
 mono:=λb _ _=>b
def Sl{α}(S:Nat->Prop)(b:AV)(r:A9 α)(v:Value)(l:List α):Prop:=
 (v= .slice none 0 0/\l=[])\/
 ∃(a:Addr)(cap:Nat),v= .slice (some a) l.length cap/\l.length<=cap/\cap<=maxLen/\
  ∀i x,l[i]? =some x->a.spot=none/\Pt S b r (.pointer (some ⟨a.block,a.off+i*r.sz,none⟩)) x
def Sl.mono{α S h S' h'}{r:A9 α}{v l}(k:Sl S h r v l)(s:∀b,S b->S' b)(e:∀b,S b->h'[b]? =h[b]?):Sl S' h' r v l:=by
 rcases k with k|⟨a,cap,h1,h4,h5,h6⟩
 ·exact .inl k
 ·refine .inr ⟨a,cap,h1,h4,h5,λi x d=>?_⟩;obtain⟨c,cs,g,j⟩:=h6 i x d;exact⟨c,cs,g.mono s e,r.mono j s e⟩
def Sl.len{α S h}{r:A9 α}{v l}(k:Sl S h r v l):∃a cap,v= .slice a l.length cap/\l.length<=maxLen:=by
 rcases k with⟨rfl,rfl⟩|⟨a,cap,h1,h4,h5,h6⟩
 ·exact⟨none,0,rfl,Agr _⟩
 ·exact⟨some a,cap,h1,Ah2 h4 h5⟩
def A9.sl{α}(r:A9 α):A9 (List α) where
 sz:=1
 ag:=false
 rd:=λS d cs l=>∃v,cs=[v]/\Sl S d r v l
 len:=λ⟨_,d,_⟩=>by rw[d];rfl
 one:=λ⟨u,d,k⟩ v b=>by
  rw[d]at b;simp at b;rw[b];rcases k with⟨rfl,_⟩|⟨a,c,rfl,_⟩<;>rfl
 mono:=λ⟨v,d,k⟩ s e=>⟨v,d,k.mono s e⟩
def Sl.mono'{α S h S' h'}{r:A9 α}{v l}(k:Sl S h r v l)(e:CO S h S' h'):Sl S' h' r v l:=k.mono e.sub e.same
def Rd.int{S a v x}(k:Rd S a AC v x):v= .int .i64 x/\AB x:=by obtain⟨_,rfl,rfl,a⟩:=k;exact⟨rfl,a⟩
def Rd.bool{S h v x}(k:Rd S h A9.bool v x):v= .bool x:=by obtain⟨_,rfl,rfl⟩:=k;rfl
def Rd.str{S a v x}(k:Rd S a A9.str v x):v= .string x/\x.size<=maxLen:=by obtain⟨_,rfl,rfl,a⟩:=k;exact⟨rfl,a⟩
def Rd.sl{α S a v x}{r:A9 α}(k:Rd S a r.sl v x):Sl S a r v x:=by obtain⟨_,rfl,_,rfl,a⟩:=k;exact a
def Kx{α S h v x}{r:A9 α}(k:Sl S h r v x):Rd S h r.sl v x:=⟨[v],rfl,v,rfl,k⟩
def FB{α β}(r:A9 α)(o:Nat)(r':A9 β)(f:α->β):Prop:=
 ∀{S a cs x},r.rd S a cs x->r'.rd S a ((cs.drop o).take r'.sz) (f x)
def OJ.fld{α β A S h}{r:A9 α}{r':A9 β}{o f p x}(k:OJ A S h r p x)(b:FB r o r' f):
  ∃a:Addr,p= .pointer (some a)/\OJ A S h r' (.pointer (some (a.add o))) (f x):=by
 obtain⟨cs,⟨a,rfl,c,d,g⟩,i⟩:=k;refine⟨a,rfl,_,⟨a.add o,rfl,?_,?_,?_⟩,b i⟩
 ·unfold Addr.add;split<;>simp[c]
 ·unfold Addr.add;split<;>exact d
 ·intro j l;have m:(a.add o).block=a.block:=by unfold Addr.add;split<;>rfl
  have n:(a.add o).off=a.off+o:=by unfold Addr.add;split<;>simp_all
  rw[m,n];simp only[Ah3,Ai7]at l;have:=g (o+j) Ω;rw[Nat.add_assoc,this,Aif Ω,Ai0]
abbrev BO(n:Int):Int:=IntKind.i64.wrap n
def Pr{n:Int}(h:AB n):BO n=n:=IntWalk.i64_in n h
def BQ(n:Int):AB (BO n):=by
 unfold BO AB;rw[IntKind.wrap_i64];omega
def T6(x y:Int):(x==y)=decide (x=y):=by rw[Bool.eq_iff_iff];simp
def qV:TypeDesc->Bool
 | .struct _| .array _ _=>true
 |_=>false
def LD(P:Program)(t:TypeId)(sz:Nat)(ag:Bool):Bool:=
 match P.info? t,P.underlying t with
 |some i,some d=>Nat.beq i.size sz&&(match d with| .struct _| .array _ _=>ag|_=> !ag)
 |_,_=>false
def Q4(P:Program)(t e sz:Nat):Bool:=
 match P.underlying t,P.info? e with
 |some (.slice a),some i=>Nat.beq a e&&Nat.beq i.size sz&& !Nat.beq sz 0
 |_,_=>false
def eJ(P:Program)(t j off:Nat):Bool:=
 match P.underlying t with
 |some (.struct a)=>match a[j]? with
  |some f=>Nat.beq f.offset off&&(match P.info? f.type with|some i=> !Nat.beq i.size 0|none=>false)
  |none=>false
 |_=>false
def R0{P t sz ag}(h:LD P t sz ag=true):∃i d,P.info? t=some i/\P.underlying t=some d/\i.size=sz/\qV d=ag:=by
 unfold LD at h;split at h
 ·rename_i i d a hd;simp only[Agu]at h;refine⟨i,d,a,hd,Ag1 h.1,?_⟩;have b:=h.2;cases d<;>cases ag<;>simp_all [qV]
 ·cases h
def Nw{P t e sz}(h:Q4 P t e sz=true):∃i,P.underlying t=some (.slice e)/\P.info? e=some i/\i.size=sz/\0<sz:=by
 unfold Q4 at h;split at h
 ·rename_i k i d g;simp only[Agu,Ahn]at h;obtain⟨⟨a,b⟩,c⟩:=h;have j:=Ag1 a;subst j;refine⟨i,d,g,Ag1 b,?_⟩;cases sz with
  |zero=>simp at c
  |succ n=>exact Nat.succ_pos _
 ·cases h
def lD{P t j off}(h:eJ P t j off=true):∃a f i,P.underlying t=some (.struct a)/\a[j]? =some f/\f.offset=off/\P.info? f.type=some i/\i.size≠0:=by
 unfold eJ at h;split at h
 ·rename_i a c;split at h
  ·rename_i f d;simp only[Agu]at h;have b:=h.2;split at b
   ·rename_i i g;refine⟨a,f,i,c,d,Ag1 h.1,g,λh0=>?_⟩;rw[h0]at b;simp at b
   ·cases b
  ·cases h
 ·cases h
section
variable{P:Program}{w:World}
def Su{t:TypeId}{i:TypeInfo}(h:P.info? t=some i):(sizeOf t).run P w= .ok i.size w:=by simp[sizeOf,typeInfo,h]
def Vk{t d}(h:P.underlying t=some d):(isAgg t).run P w= .ok (qV d) w:=by
 simp only[isAgg,Sem.run_bind,run_underlying h,Result.andThen_ok];cases d<;>rfl
def Nx{S:Nat->Prop}{cs:List Value}{t sz:Nat}(k:O4 S w.heap p cs)(g:cs.length=sz)(y:LD P t sz ag=true)(z:ag=false->sz=1):
  (Instr.loadAt t p).run P w= .ok (if ag then .agg cs.toArray else cs.headD undef) w:=by
 obtain⟨a,rfl,u,D,A⟩:=k;obtain⟨i,d,B,hd,C,n⟩:=R0 y;have KE:∀j,j<cs.length->w.cell? (a.add j)=cs[j]? :=λj m=>by
  have:=A j m;obtain⟨b,o,s⟩:=a;simp only at u;subst u;have l:(⟨b,o,none⟩:Addr).add j=⟨b,o+j,none⟩:=by unfold Addr.add;split<;>simp_all
  rw[l,NI];exact this
 simp only[Instr.loadAt,Instr.sureAddr,loadVar,Sem.run_bind,Sem.run_pure,Result.andThen_ok,Vk hd,n];cases ag with
 |true=>
  simp only[if_true,Sem.run_bind,Su B,Result.andThen_ok,C,<-g];rw[run_loadCells_list (P:=P) w a cs (λj v m=>by
   have q:j<cs.length:=(Ag0.1 m).1;rw[KE j q,m])]
  rfl
 |false=>
  have:=z rfl;have x:=KE 0 Ω
  match cs,g with
  |[c],_=>
   have h0:a.add 0=a:=by unfold Addr.add;simp
   rw[h0]at x;simp only[Ail,Aim,load,Sem.run,x];rfl
  |[],g=>simp at g;omega
  |_::_::_,g=>simp at g;omega
def NG{a:Addr}{t j off}(h:eJ P t j off=true):(Instr.fieldAt t (.pointer (some a)) j).run P w= .ok (.pointer (some (a.add off))) w:=by
 obtain⟨l,f,i,b,c,d,g,k⟩:=lD h;simp[Instr.fieldAt,run_underlying b,c,Instr.sureAddr,fieldPlace,Su g,k,d]
def NF{a:Addr}{t sz len:Nat}{i:Int}(h:Q4 P t e sz=true)(h0:0<=i)(k:i.toNat<len):
  (Instr.indexAt t (.slice (some a) len cap) (.int .i64 i)).run P w= .ok (.pointer (some (a.add (i.toNat*sz)))) w:=by
 obtain⟨c,d,g,j,l⟩:=Nw h;have b:i<(len:Int):=Ω
 simp[Instr.indexAt,asIntOf,run_underlying d,Su g,h0,b,j]
end
def CK(C:World->Prop)(h:AV):Prop:=∀w,C w->∀b,b<h.size->w.heap[b]? =h[b]?
def H4{h}:CK (Wd B h) h:=λw a _ _=>by rw[a.heap]
structure Ef(h h':AV):Prop where
 siz:h.size<=h'.size
 same:∀b,b<h.size->h'[b]? =h[b]?
def Ef.refl(h:AV):Ef h h:=⟨Ag5 _,λ_ _=>rfl⟩
def Ef.trans{h h' h''}(x:Ef h h')(y:Ef h' h''):Ef h h'':=⟨Ah2 x.siz y.siz,λb a=>(y.same b (Ag6 a x.siz)).trans (x.same b a)⟩
def Ef.ext{S h h'}(o:Ef h h')(a:∀b,S b->b<h.size):CO S h S h':=⟨λ_ x=>x,λb c=>o.same b (a b c),o.siz⟩
def Ef.all{S h h'}(o:Ef h h')(a:∀b,S b->b<h.size):CO S h (λb=>b<h'.size) h':=⟨λb x=>Ag6 (a b x) o.siz,λb c=>o.same b (a b c),o.siz⟩
def Ef.st{S L h h'}(o:Ef h h')(c:St S L h):St S L h':=
 ⟨λb a=>Ag6 (c.1 b a) o.siz,Sp.ext c.2 (λ_ x=>x) (λb a=>o.same b (a.elim (c.1 b) (·.1))) λ_ a=>⟨Ag6 a.1 o.siz,a.2⟩⟩
def Cl(B:World)(h:AV)(w:World):Prop:=∃h',Wd B h' w/\Ef h h'
def OK{h}:CK (Cl B h) h:=λ_ ⟨_,a,o⟩ b c=>by rw[a.heap];exact o.same b c
section
variable{P:Program}{ops:Array Oper}{C:World->Prop}{Q:Act->Prop}{n:FN}{a:Act}{m:List (Nat×Value)}{rest:List Oper}
variable{d:Nat}{ty:TypeId}{pos:String}{af:Array Edge}
def GH{c:Op}{v:Value}(g:Fr n a m)(hd:Nat.blt d n.1=true)
  (b:∀w,C w->(execOp a.eval ⟨some d,c,ty,pos,af,none⟩).run P w= .ok (.value v) w)
  (k:∀a,Fr n a ((d,v)::m)->wpQuiet P ops C Q rest a):wpQuiet P ops C Q (⟨some d,c,ty,pos,af,none⟩::rest) a:=by
 unfold wpQuiet;rw[Agp (by simp[Region.wanted])];exact⟨v,λw i=>by unfold Oper.quietAt;rw[b w i];exact⟨rfl,rfl⟩,k _ (g.put hd v)⟩
def Ae9(c:Fr n a m)(d:o.guard=some (j,b))(g:(ops[j]?).bind (·.dst)=some e)(i:lk m e=some (.bool b))
  (k:wpQuiet P ops C Q ({ o with guard:=none}::rest) a):wpQuiet P ops C Q (o::rest) a:=by
 have l:Region.wanted o (yielded ops a.tmps)=true:=by
  have:=c.at_ e _ i;simp[Region.wanted,d,yielded,g,this]
 unfold wpQuiet at k ⊢;rw[Agp l];rw[Agp (by simp[Region.wanted])]at k;exact k
def Afa(c:Fr n a m)(g:o.guard=some (j,!b))(i:(ops[j]?).bind (·.dst)=some e)(l:lk m e=some (.bool b))(p:o.dst=some d)(hd:Nat.blt d n.1=true)
  (k:∀a,Fr n a ((d,undef)::m)->wpQuiet P ops C Q rest a):wpQuiet P ops C Q (o::rest) a:=by
 have q:Region.wanted o (yielded ops a.tmps)=false:=by
  have:=c.at_ e _ l;cases b<;>simp[Region.wanted,g,yielded,i,this]
 unfold wpQuiet;rw[Agn (by rw[q];exact Bool.false_ne_true),p];exact k _ (c.put hd _)
def Vm(k:Nat)(I:Act->Prop)(b:wpQuiet P ops C I (l.take k) a)(c:∀g,I g->wpQuiet P ops C Q (l.drop k) g):wpQuiet P ops C Q l a:=by
 induction k generalizing l a with
 |zero=>exact c a (by simpa[wpQuiet]using b)
 |succ k i=>
  cases l with
  |nil=>exact c a (by simpa[wpQuiet]using b)
  |cons o l=>
   simp only[List.take_succ_cons,List.drop_succ_cons]at b c;unfold wpQuiet at b ⊢;split
   ·rename_i d;rw[Agp d]at b;obtain⟨v,j,m⟩:=b;exact⟨v,j,i m c⟩
   ·rename_i d;rw[Agn d]at b;exact i b c
def Ae7{X v}(b:Fr n a m)(c:B5 m X=some v)(hd:Nat.blt d n.1=true)
  (k:∀a,Fr n a ((d,v)::m)->wpQuiet P ops C Q rest a):wpQuiet P ops C Q (⟨some d,.move X,ty,pos,af,none⟩::rest) a:=
 GH b hd (λw _=>by simp[execOp,b.eval c]) k
def Afc{X v}(b:Fr n a m)(c:B5 m X=some v)(hd:Nat.blt d n.1=true)
  (k:∀a,Fr n a ((d,v)::m)->wpQuiet P ops C Q rest a):wpQuiet P ops C Q (⟨some d,.assign X,ty,pos,af,none⟩::rest) a:=
 GH b hd (λw _=>by simp[execOp,b.eval c]) k
def wO{c x y:Operand}{v}(g:Fr n a m)(i:B5 m c=some (.bool b))(j:B5 m (if b then x else y)=some v)(hd:Nat.blt d n.1=true)
  (k:∀a,Fr n a ((d,v)::m)->wpQuiet P ops C Q rest a):wpQuiet P ops C Q (⟨some d,.pick c x y,ty,pos,af,none⟩::rest) a:=
 GH g hd (λw _=>by cases b<;>simp[execOp,g.eval i,asBool]<;>exact g.eval (by simpa using j)) k
section ints
variable{X Y:Operand}{t1 t2:TypeId}{x y:Int}{kd:IntKind}
def P5{b:BinOp}{v:Value}(c:Fr n a m)(g:B5 m X=some (.int kd x))(i:B5 m Y=some (.int kd y))(hd:Nat.blt d n.1=true)
  (j:∀w,(binOp b t1 (.int kd x) (.int kd y)).run P w= .ok v w)
  (k:∀a,Fr n a ((d,v)::m)->wpQuiet P ops C Q rest a):wpQuiet P ops C Q (⟨some d,.binOp b t1 X Y t2,ty,pos,af,none⟩::rest) a:=by
 refine GH c hd (λw _=>?_) k;have l:(eqGuard b t1 X Y (.int kd x) (.int kd y)).run P w= .ok () w:=by
  unfold eqGuard;cases b<;>simp
 simp[execOp,c.eval g,c.eval i,l,j]
def Acf(b:Fr n a m)(c:B5 m X=some (.int .i64 x))(g:B5 m Y=some (.int .i64 y))(hd:Nat.blt d n.1=true)(i:AB (x+y))
  (k:∀a,Fr n a ((d,.int .i64 (x+y))::m)->wpQuiet P ops C Q rest a):wpQuiet P ops C Q (⟨some d,.binOp .add t1 X Y t2,ty,pos,af,none⟩::rest) a:=
 P5 b c g hd (λw=>by have:=Pr i;simp only[BO]at this;simp[binOp,Op.intArith,this]) k
def Abz(b:Fr n a m)(c:B5 m X=some (.int .i64 x))(g:B5 m Y=some (.int .i64 y))(hd:Nat.blt d n.1=true)(i:AB (x*y))
  (k:∀a,Fr n a ((d,.int .i64 (x*y))::m)->wpQuiet P ops C Q rest a):wpQuiet P ops C Q (⟨some d,.binOp .mul t1 X Y t2,ty,pos,af,none⟩::rest) a:=
 P5 b c g hd (λw=>by have:=Pr i;simp only[BO]at this;simp[binOp,Op.intArith,this]) k
def wR(b:Fr n a m)(c:B5 m X=some (.int .i64 x))(g:B5 m Y=some (.int .i64 y))(hd:Nat.blt d n.1=true)
  (k:∀a,Fr n a ((d,.int .i64 (BO (x+y)))::m)->wpQuiet P ops C Q rest a):wpQuiet P ops C Q (⟨some d,.binOp .add t1 X Y t2,ty,pos,af,none⟩::rest) a:=
 P5 b c g hd (λw=>by simp[binOp,Op.intArith]) k
def wN(b:Fr n a m)(c:B5 m X=some (.int .i64 x))(g:B5 m Y=some (.int .i64 y))(hd:Nat.blt d n.1=true)
  (k:∀a,Fr n a ((d,.int .i64 (BO (x-y)))::m)->wpQuiet P ops C Q rest a):wpQuiet P ops C Q (⟨some d,.binOp .sub t1 X Y t2,ty,pos,af,none⟩::rest) a:=
 P5 b c g hd (λw=>by simp[binOp,Op.intArith]) k
def Ab2(b:Fr n a m)(c:B5 m X=some (.int kd x))(g:B5 m Y=some (.int kd y))(hd:Nat.blt d n.1=true)
  (k:∀a,Fr n a ((d,.bool (decide (x<y)))::m)->wpQuiet P ops C Q rest a):wpQuiet P ops C Q (⟨some d,.binOp .lss t1 X Y t2,ty,pos,af,none⟩::rest) a:=
 P5 b c g hd (λw=>by simp[binOp,Op.intCmp]) k
def Ab3(b:Fr n a m)(c:B5 m X=some (.int kd x))(g:B5 m Y=some (.int kd y))(hd:Nat.blt d n.1=true)
  (k:∀a,Fr n a ((d,.bool (decide (x<=y)))::m)->wpQuiet P ops C Q rest a):wpQuiet P ops C Q (⟨some d,.binOp .leq t1 X Y t2,ty,pos,af,none⟩::rest) a:=
 P5 b c g hd (λw=>by simp[binOp,Op.intCmp]) k
def Aca(b:Fr n a m)(c:B5 m X=some (.int kd x))(g:B5 m Y=some (.int kd y))(hd:Nat.blt d n.1=true)
  (k:∀a,Fr n a ((d,.bool (decide (y<x)))::m)->wpQuiet P ops C Q rest a):wpQuiet P ops C Q (⟨some d,.binOp .gtr t1 X Y t2,ty,pos,af,none⟩::rest) a:=
 P5 b c g hd (λw=>by simp[binOp,Op.intCmp]) k
def Acb(b:Fr n a m)(c:B5 m X=some (.int kd x))(g:B5 m Y=some (.int kd y))(hd:Nat.blt d n.1=true)
  (k:∀a,Fr n a ((d,.bool (decide (y<=x)))::m)->wpQuiet P ops C Q rest a):wpQuiet P ops C Q (⟨some d,.binOp .geq t1 X Y t2,ty,pos,af,none⟩::rest) a:=
 P5 b c g hd (λw=>by simp[binOp,Op.intCmp]) k
def Acd(b:Fr n a m)(c:B5 m X=some (.int kd x))(g:B5 m Y=some (.int kd y))(hd:Nat.blt d n.1=true)
  (k:∀a,Fr n a ((d,.bool (decide (x=y)))::m)->wpQuiet P ops C Q rest a):wpQuiet P ops C Q (⟨some d,.binOp .eql t1 X Y t2,ty,pos,af,none⟩::rest) a:=
 P5 b c g hd (λw=>by simp[binOp,Op.intCmp,T6]) k
def Aby(b:Fr n a m)(c:B5 m X=some (.int kd x))(g:B5 m Y=some (.int kd y))(hd:Nat.blt d n.1=true)
  (k:∀a,Fr n a ((d,.bool (decide (x≠y)))::m)->wpQuiet P ops C Q rest a):wpQuiet P ops C Q (⟨some d,.binOp .neq t1 X Y t2,ty,pos,af,none⟩::rest) a:=
 P5 b c g hd (λw=>by simp[binOp,Op.intCmp,bne,T6]) k
end ints
def Abw{X t1 b}(c:Fr n a m)(g:B5 m X=some (.bool b))(hd:Nat.blt d n.1=true)
  (k:∀a,Fr n a ((d,.bool (!b))::m)->wpQuiet P ops C Q rest a):wpQuiet P ops C Q (⟨some d,.unOp .not t1 X,ty,pos,af,none⟩::rest) a:=
 GH c hd (λw _=>by simp[execOp,c.eval g,Op.unary]) k
section loads
variable{A S:Nat->Prop}{L:List HP}{h:AV}{X:Operand}{p:Value}{t:TypeId}
def sY{cs:List Value}{sz:Nat}(g:CK C h)(i:∀b,A b->b<h.size)(c:Fr n a m)(j:B5 m X=some p)(k0:O4 A h p cs)(l:cs.length=sz)(o:LD P t sz ag=true)(q:ag=false->sz=1)(hd:Nat.blt d n.1=true)
  (k:∀a,Fr n a ((d,if ag then .agg cs.toArray else cs.headD undef)::m)->wpQuiet P ops C Q rest a):wpQuiet P ops C Q (⟨some d,.load t X,ty,pos,af,none⟩::rest) a:=by
 refine GH c hd (λw s=>?_) k;have:=Nx (P:=P) (w:=w) (k0.mono (λ_ x=>x) λb u=>g w s b (i b u)) l o q;simp[execOp,c.eval j,this]
def cY{α}{r:A9 α}{x}(i:CK C h)(j:∀b,A b->b<h.size)(l:Fr n a m)(o:B5 m X=some p)(k0:OJ A S h r p x)(q:LD P t r.sz r.ag=true)(s:r.ag=false->r.sz=1)(hd:Nat.blt d n.1=true)
  (k:∀v a,Fr n a ((d,v)::m)->Rd S h r v x->wpQuiet P ops C Q rest a):wpQuiet P ops C Q (⟨some d,.load t X,ty,pos,af,none⟩::rest) a:=by
 obtain⟨cs,u,g⟩:=k0;exact sY i j l o u (r.len g) q s hd λw c=>k _ w c ⟨cs,rfl,g⟩
def Ab8{x}(g:CK C h)(i:∀b,A b->b<h.size)(j:Fr n a m)(l:B5 m X=some p)(k0:OJ A S h AC p x)(o:LD P t 1 false=true)(hd:Nat.blt d n.1=true)
  (k:∀a,Fr n a ((d,.int .i64 x)::m)->AB x->wpQuiet P ops C Q rest a):wpQuiet P ops C Q (⟨some d,.load t X,ty,pos,af,none⟩::rest) a:=
 cY g i j l k0 o (λ_=>rfl) hd λv q c s=>by obtain⟨rfl,u⟩:=s.int;exact k q c u
def Ab9{x}(g:CK C h)(i:∀b,A b->b<h.size)(j:Fr n a m)(l:B5 m X=some p)(k0:OJ A S h A9.bool p x)(o:LD P t 1 false=true)(hd:Nat.blt d n.1=true)
  (k:∀a,Fr n a ((d,.bool x)::m)->wpQuiet P ops C Q rest a):wpQuiet P ops C Q (⟨some d,.load t X,ty,pos,af,none⟩::rest) a:=
 cY g i j l k0 o (λ_=>rfl) hd λv q c s=>by obtain rfl:=s.bool;exact k q c
def Ab5{x}(g:CK C h)(i:∀b,A b->b<h.size)(j:Fr n a m)(l:B5 m X=some p)(k0:OJ A S h A9.str p x)(o:LD P t 1 false=true)(hd:Nat.blt d n.1=true)
  (k:∀a,Fr n a ((d,.string x)::m)->x.size<=maxLen->wpQuiet P ops C Q rest a):wpQuiet P ops C Q (⟨some d,.load t X,ty,pos,af,none⟩::rest) a:=
 cY g i j l k0 o (λ_=>rfl) hd λv q c s=>by obtain⟨rfl,u⟩:=s.str;exact k q c u
def Ab7{α}{r:A9 α}{x}(g:CK C h)(i:∀b,A b->b<h.size)(j:Fr n a m)(l:B5 m X=some p)(k0:OJ A S h r.sl p x)(o:LD P t 1 false=true)(hd:Nat.blt d n.1=true)
  (k:∀v a,Fr n a ((d,v)::m)->Sl S h r v x->wpQuiet P ops C Q rest a):wpQuiet P ops C Q (⟨some d,.load t X,ty,pos,af,none⟩::rest) a:=
 cY g i j l k0 o (λ_=>rfl) hd λv q c s=>k v q c s.sl
def Afb{α β}{r:A9 α}{r':A9 β}{f:α->β}{j off x}(c:Fr n a m)(g:B5 m X=some p)(k0:OJ A S h r p x)(i:FB r off r' f)(l:eJ P t j off=true)(hd:Nat.blt d n.1=true)
  (k:∀q a,Fr n a ((d,q)::m)->OJ A S h r' q (f x)->wpQuiet P ops C Q rest a):wpQuiet P ops C Q (⟨some d,.fieldAddr t X j,ty,pos,af,none⟩::rest) a:=by
 obtain⟨u,rfl,o⟩:=k0.fld i;exact GH c hd (λw _=>by simp[execOp,c.eval g,NG l]) λs b=>k _ s b o
def Acc{b o j off}(g:Fr n a m)(i:B5 m X=some (.pointer (some ⟨b,o,none⟩)))(l:eJ P t j off=true)(hd:Nat.blt d n.1=true)
  (k:∀a,Fr n a ((d,.pointer (some ⟨b,o+off,none⟩))::m)->wpQuiet P ops C Q rest a):wpQuiet P ops C Q (⟨some d,.fieldAddr t X j,ty,pos,af,none⟩::rest) a:=by
 have c:(⟨b,o,none⟩:Addr).add off=⟨b,o+off,none⟩:=by unfold Addr.add;split<;>simp_all
 exact GH g hd (λw _=>by simp[execOp,g.eval i,NG l,c]) k
def Sl.at_{α}{r:A9 α}{v:Value}{l:List α}(k0:Sl S h r v l){i:Nat}{x:α}(d:l[i]? =some x):
  ∃(a:Addr)(cap:Nat),v= .slice (some a) l.length cap/\Pt S h r (.pointer (some (a.add (i*r.sz)))) x:=by
 rcases k0 with⟨rfl,rfl⟩|⟨a,cap,h1,h4,h5,h6⟩
 ·simp at d
 ·refine⟨a,cap,h1,?_⟩;obtain⟨g,this⟩:=h6 i x d;obtain⟨b,o,s⟩:=a;simp only at g;subst g;have c:(⟨b,o,none⟩:Addr).add (i*r.sz)=⟨b,o+i*r.sz,none⟩:=by unfold Addr.add;split<;>simp_all
  rw[c];exact this
def Ae8{α}{r:A9 α}{l:List α}{e i x Y v}(b:Fr n a m)(j:B5 m X=some v)(o:B5 m Y=some (.int .i64 i))(k0:Sl S h r v l)(p:Q4 P t e r.sz=true)(h0:0<=i)(g:l[i.toNat]? =some x)(hd:Nat.blt d n.1=true)
  (k:∀q a,Fr n a ((d,q)::m)->Pt S h r q x->wpQuiet P ops C Q rest a):wpQuiet P ops C Q (⟨some d,.indexAddr t X Y,ty,pos,af,none⟩::rest) a:=by
 obtain⟨s,cap,rfl,u⟩:=k0.at_ g;have y:i.toNat<l.length:=(Ag0.1 g).1;exact GH b hd (λw _=>by simp[execOp,b.eval j,b.eval o,NF (P:=P) (w:=w) (cap:=cap) (a:=s) p h0 y]) λz c=>k _ z c u
def Ab4{α}{r:A9 α}{l:List α}{v aty e}(c:Fr n a m)(g:B5 m X=some v)(k0:Sl S h r v l)(j:Q4 P t e r.sz=true)(hd:Nat.blt d n.1=true)
  (k:∀a,Fr n a ((d,.int .i64 l.length)::m)->l.length<=maxLen->wpQuiet P ops C Q rest a):wpQuiet P ops C Q (⟨some d,.call ⟨.builtin .len,#[X],#[t]⟩,aty,pos,af,none⟩::rest) a:=by
 obtain⟨s,cap,rfl,o⟩:=k0.len;obtain⟨i,p,_⟩:=Nw j;exact GH c hd (λw _=>by simp[execOp,resolve,invoke,builtin,Builtin.len_,c.eval g,run_underlying p,goInt]) λq b=>k q b o
def wP{ad len cap aty e sz}(b:Fr n a m)(c:B5 m X=some (.slice ad len cap))(g:Q4 P t e sz=true)(hd:Nat.blt d n.1=true)
  (k:∀a,Fr n a ((d,.int .i64 len)::m)->wpQuiet P ops C Q rest a):wpQuiet P ops C Q (⟨some d,.call ⟨.builtin .len,#[X],#[t]⟩,aty,pos,af,none⟩::rest) a:=by
 obtain⟨i,j,_⟩:=Nw g;exact GH b hd (λw _=>by simp[execOp,resolve,invoke,builtin,Builtin.len_,b.eval c,run_underlying j,goInt]) k
end loads
def Ab1{X Y t1 t2 x y aty kd}(b:Fr n a m)(c:B5 m X=some (.int kd x))(g:B5 m Y=some (.int kd y))(hd:Nat.blt d n.1=true)
  (k:∀a,Fr n a ((d,.int kd (max x y))::m)->wpQuiet P ops C Q rest a):wpQuiet P ops C Q (⟨some d,.call ⟨.builtin .max,#[X,Y],#[t1,t2]⟩,aty,pos,af,none⟩::rest) a:=
 GH b hd (λw _=>by
  have:(if y>x then y else x)=max x y:=by rw[Int.max_def];split<;>split<;>omega
  simp[execOp,resolve,invoke,builtin,Builtin.max_,Builtin.max2,b.eval c,b.eval g,this]) k
def Ab0{X Y t1 t2 x y aty kd}(b:Fr n a m)(c:B5 m X=some (.int kd x))(g:B5 m Y=some (.int kd y))(hd:Nat.blt d n.1=true)
  (k:∀a,Fr n a ((d,.int kd (min x y))::m)->wpQuiet P ops C Q rest a):wpQuiet P ops C Q (⟨some d,.call ⟨.builtin .min,#[X,Y],#[t1,t2]⟩,aty,pos,af,none⟩::rest) a:=
 GH b hd (λw _=>by
  have:(if y<x then y else x)=min x y:=by rw[Int.min_def];split<;>split<;>omega
  simp[execOp,resolve,invoke,builtin,Builtin.min_,Builtin.min2,b.eval c,b.eval g,this]) k
end
abbrev AP:=Act->World->Prop
variable {N R:AP}
def xB:List (Nat×AP)->Nat->Option AP
 |[],_=>none
 |(i,v)::r,j=>cond (Nat.beq i j) (some v) (xB r j)
def Qx(ex:List (Nat×AP))(R N:AP):Exit->Act->World->Prop
 | .normal=>N
 | .exit i=>match xB ex i with
  |some k=>k
  |none=>λ_ _=>False
 | .ret=>R
 |_=>λ_ _=>False
def FF:Option Nat->Fence
 |none=>Fence.wide
 |some l=>Fence.wide.inRound l
def sZ(o:Oper):Bool:=match o.op with| .defer _=>false|_=>true
def dF:Code->Bool
 | .skip=>true
 | .region _ ops _=>ops.toList.all sZ
 | .seq x y=>dF x&&dF y
 | .cond _ x y=>dF x&&dF y
 | .block _ c=>dF c
 | .loop c=>dF c
 | .exit _=>true
 | .ret=>true
 |_=>false
def RD(rd:Option Nat)(c:Code):Prop:=rd=none\/dF c=true
def Ti(rd:Option Nat)(f:FuncId):(FF rd).fn f:=by cases rd<;>trivial
def VJ(rd:Option Nat):(FF rd).depth=none:=by cases rd<;>rfl
def nP(rd:Option Nat):(FF rd).round=rd:=by cases rd<;>rfl
def TP(P:Program)(rd:Option Nat):Machine.fenced P (FF rd)=Machine.fenced P Fence.wide:=by cases rd<;>rfl
def qQ{f:FuncId}{a:Array Value}{R:Ending->World->Prop}{n:Nat}(h:Calls P f a w R):CallsIn (FF rd) n P f a w R:=
 ⟨Ti rd f,λcs _=>let ⟨e,w',fr,r,s,x⟩:=h cs;⟨e,w',fr,r,by rw[TP];exact comesIn_wide.2 s,x⟩⟩
def wK{b:String}{a:Array Value}{R:Value->World->Prop}{n:Nat}(h:Rows P b a w R):RowsIn (FF rd) n P b a w R:=
 λc cs _=>let ⟨v,w',r,s⟩:=h c cs;⟨v,w',r,by rw[TP];exact stepsIn_wide.2 s⟩
section
variable{P:Program}{ops:Array Oper}{Q:Exit->Act->World->Prop}{rd:Option Nat}
def wU{K:Act->World->Prop}(b:rd=none\/sZ o=true)(g:∀a w,¬Q .outgrown a w)(h:o.wp P a w K Q\/(o.asks P a w/\LetsOut Q)):o.wpIn (FF rd) 0 P a w K Q:=by
 rcases h with h|⟨_,a0,w0,h⟩
 ·refine⟨λf _=>Ti rd f,?_⟩;have i:o.semAt (FF rd).round a.eval=execOp a.eval o:=by
   rw[nP];cases rd with
   |none=>rfl
   |some l=>exact Oper.semAt_some l _ _ λc j=>b.elim (λb=>by cases b) λb=>by unfold sZ at b;rw[j]at b;cases b
  rw[i];unfold Oper.wp at h;generalize (execOp a.eval o).run P w=r at h
  cases r with
  |ok k w'=>
   cases k<;>simp only[Oper.upon,Oper.uponIn]at h ⊢
   case value v=>exact h
   case skip=>exact h
   case defer d=>exact h
   case enter f args=>exact⟨λhd=>(by rw[VJ]at hd;cases hd),qQ (h.mono λe m n=>by cases e<;>exact n)⟩
   case row r args=>exact⟨λhd=>(by rw[VJ]at hd;cases hd),wK h⟩
  |halt x w'=>cases x<;>simp only[Oper.upon,Oper.uponIn]at h ⊢;exact h
 ·exact absurd h (g a0 w0)
def ZH(c:∀a w,¬Q .outgrown a w):∀(l:List Oper)(a:Act)(w:World),(rd=none\/l.all sZ=true)->wpList P ops Q l a w->wpListIn (FF rd) 0 P ops Q l a w
 |[],_,_,_,h=>h
 |o::b,a,w,g,h=>by
  have j:rd=none\/sZ o=true:=g.imp id λh=>by simp only[List.all_cons,Agu]at h;exact h.1
  have i:rd=none\/b.all sZ=true:=g.imp id λh=>by simp only[List.all_cons,Agu]at h;exact h.2
  unfold wpList at h;unfold wpListIn;split
  ·rename_i d;rw[Agp d]at h;exact wU j c (h.imp (Oper.wp_mono λa w k=>ZH c b a w i k) id)
  ·rename_i d;rw[Agn d]at h;exact⟨λf _=>Ti rd f,ZH c b _ w i h⟩
def bH(g:∀a w,¬Q .outgrown a w)(j:rd=none\/ops.toList.all sZ=true):∀(b:Nat)(c:Array Bool)(a:Act)(w:World),wpAny P .any ops Q b c a w->wpAnyIn (FF rd) 0 P .any ops Q b c a w
 |0,_,_,_,h=>h
 |b+1,c,a,w,h=>⟨h.1,λi p=>by
  have d:=h.2 i p;unfold wpOp at d;unfold wpOpIn;cases l:ops[i]? with
  |none=>simp only[l]at d ⊢;exact bH g j b _ a w d
  |some o=>
   simp only[l]at d ⊢;have m:rd=none\/sZ o=true:=j.imp id λh=>Agz.1 h o (by have:=Array.mem_of_getElem? l;simpa using this);split
   ·rename_i n;rw[Agp n]at d;exact wU m g (d.imp (Oper.wp_mono λa w k=>bH g j b _ a w k) id)
   ·rename_i n;rw[Agn n]at d;exact⟨λf _=>Ti rd f,bH g j b _ _ w d⟩⟩
def Y7{id:Nat}(hd:RD rd (.region id l.toArray false))(b:∀a w,¬Q .outgrown a w)(h:wpList P l.toArray Q l a w):(Code.region id l.toArray false).wpIn (FF rd) 0 P Q a w:=
 wpIn_region_lit (ZH b l a w (hd.imp (λx=>x) λh=>by simpa[dF]using h) h)
def RZ{id:Nat}(hd:RD rd (.region id ops true))(b:∀a w,¬Q .outgrown a w)(c:P.follows .mixedOrders=true)
  (h:wpAny P .any ops Q ops.size (Array.replicate ops.size false) a { w with drawn:=w.drawn+1}):(Code.region id ops true).wpIn (FF rd) 0 P Q a w:=
 wpIn_region_any c (bH b (hd.imp (λx=>x) λh=>by simpa[dF]using h) _ _ _ _ h)
end
def W(P:Program)(ex:List (Nat×AP))(R:AP):List Code->AP->AP
 |[],N=>N
 |c::cs,N=>λa w=>∀rd,RD rd c->c.wpIn (FF rd) 0 P (Qx ex R (W P ex R cs N)) a w
section
variable{P:Program}{ex:List (Nat×AP)}{R N:AP}{cs:List Code}{a:Act}{w:World}
def RD.seq{x y:Code}(h:RD rd (.seq x y)):RD rd x/\RD rd y:=
 ⟨h.imp id λh=>by simp only[dF,Agu]at h;exact h.1,h.imp id λh=>by simp only[dF,Agu]at h;exact h.2⟩
def RD.cond{x y:Code}(h:RD rd (.cond X x y)):RD rd x/\RD rd y:=
 ⟨h.imp id λh=>by simp only[dF,Agu]at h;exact h.1,h.imp id λh=>by simp only[dF,Agu]at h;exact h.2⟩
def RD.block{i:Nat}(h:RD rd (.block i c)):RD rd c:=h
def RD.loop(h:RD rd (.loop c)):RD rd c:=h
def OY{ex:List (Nat×AP)}:∀a w,¬(Qx ex R N) .outgrown a w:=λ_ _ h=>h
def Abk{x y:Code}(h:W P ex R (x::y::cs) N a w):W P ex R (.seq x y::cs) N a w:=by
 intro rd hd;refine wpIn_seq (wpIn_mono (h rd hd.seq.1) λe b w' q=>?_);cases e with
 |normal=>exact q rd hd.seq.2
 |_=>exact q
def uW(h:W P ex R cs N a w):W P ex R (.skip::cs) N a w:=λ_ _=>wpIn_skip h
def Abl(h:R a w):W P ex R (.ret::cs) N a w:=λ_ _=>wpIn_ret h
def fH{i:Nat}{k:AP}(b:xB ex i=some k)(h:k a w):W P ex R (.exit i::cs) N a w:=by
 refine λ_ _=>wpIn_exit ?_;simp only[Qx,b];exact h
def Ae1{n m X b}{x y:Code}(c:Fr n a m)(d:B5 m X=some (.bool b))(g:b=true->W P ex R (x::cs) N a w)(i:b=false->W P ex R (y::cs) N a w):
  W P ex R (.cond X x y::cs) N a w:=λrd hd=>wpIn_cond_split (c.eval d) (λe=>g e rd hd.cond.1) λe=>i e rd hd.cond.2
def Abm{n m X}{x y:Code}(b:Fr n a m)(c:B5 m X=some (.bool true))(d:W P ex R (x::cs) N a w):
  W P ex R (.cond X x y::cs) N a w:=λrd hd=>wpIn_cond_true (b.eval c) (d rd hd.cond.1)
def Abn{n m X}{x y:Code}(b:Fr n a m)(c:B5 m X=some (.bool false))(d:W P ex R (y::cs) N a w):
  W P ex R (.cond X x y::cs) N a w:=λrd hd=>wpIn_cond_false (b.eval c) (d rd hd.cond.2)
def Xc{i:Nat}(I:AP)(g:W P ((i,I)::ex) R [c] I a w)(d:∀a w,I a w->W P ex R cs N a w):W P ex R (.block i c::cs) N a w:=by
 intro rd hd;refine wpIn_block (wpIn_mono (g rd hd.block) λe l w' q=>?_);cases e with
 |exit j=>
  simp only[Exit.inBlock,Qx,xB]at q ⊢;by_cases b:j=i
  ·subst b;rw[Agp rfl];have:Nat.beq j j=true:=Nat.beq_refl j;rw[this]at q;exact d _ _ q
  ·rw[Agn b];have:Nat.beq i j=false:=by
    cases k:Nat.beq i j with
    |false=>rfl
    |true=>exact absurd (Ag1 k).symm b
   rw[this]at q;exact q
 |normal=>exact d _ _ q
 |_=>exact q
def nW{i:Nat}(h:W P ((i,W P ex R cs N)::ex) R [c] (W P ex R cs N) a w):W P ex R (.block i c::cs) N a w:=Xc _ h λ_ _ x=>x
def uX{b:AP}(h:W P ex R cs N a w)(d:∀a w,N a w->b a w):W P ex R cs b a w:=by
 induction cs generalizing a w with
 |nil=>exact d _ _ h
 |cons c cs g=>
  intro rd hd;refine wpIn_mono (h rd hd) λe i w' q=>?_;cases e with
  |normal=>exact g q
  |_=>exact q
def Abo(I:AP)(b:W P ex R [c] I a w)(d:∀a w,I a w->W P ex R cs N a w):W P ex R (c::cs) N a w:=by
 intro rd hd;refine wpIn_mono (b rd hd) λe g w' q=>?_;cases e with
 |normal=>exact d _ _ q
 |_=>exact q
def uY(I:Nat->AP)(T d:Nat)(h0:I d a w)(g:∀i a w,I i a w->i<=T)
  (b:∀i a w,I i a w->W P ex R [c] (I (i+1)) a w):W P ex R (.loop c::cs) N a w:=by
 intro rd hd;refine wpIn_loop_ghost (λk a w=>∃i,I i a w/\k=T-i+1) (T-d+1) ⟨d,h0,rfl⟩ ?_;rintro n a w⟨i,j,rfl⟩;refine wpIn_mono (b i a w j rd hd.loop) λe o w' q=>?_;cases e with
 |normal=>
  have p:=g _ _ _ j;have m:I (i+1) o w':=q;have s:=g _ _ _ m;exact⟨_,Ω,i+1,m,rfl⟩
 |exit id=>exact q
 |goto l=>exact q
 |ret=>exact q
 |panic t=>exact q
 |outgrown=>exact q
end
def N0{P:Program}{ops:Array Oper}{C:World->Prop}{K:Act->Prop}{Q:Exit->Act->World->Prop}(d:∀a w,C w->K a->Q .normal a w):
  ∀(l:List Oper)(a:Act)(w:World),C w->wpQuiet P ops C K l a->wpList P ops Q l a w
 |[],a,w,c,h=>d a w c h
 |o::b,a,w,c,h=>by
  unfold wpQuiet at h;unfold wpList;split
  ·rename_i g;rw[Agp g]at h;exact .inl (Oper.wp_of_quiet c (λj w' i k=>N0 d b j w' i k) h)
  ·rename_i g;rw[Agn g]at h;exact N0 d b _ w c h
def jB(P:Program)(l:List Oper)(draw:Bool):Prop:=draw=false\/(P.follows .mixedOrders=true/\Region.lexB .any l.toArray=true)
def Xz{id:Nat}{Q:Exit->Act->World->Prop}(b:RD rd (.region id l.toArray draw))(d:∀a w,¬Q .outgrown a w)(k:jB P l draw)(c:C w)(hd:∀w,C w->C { w with drawn:=w.drawn+1})
  (h:wpQuiet P l.toArray C (λg=>∀w',C w'->Q .normal g w') l a):(Code.region id l.toArray draw).wpIn (FF rd) 0 P Q a w:=by
 rcases k with rfl|⟨hm,hB⟩
 ·exact Y7 b d (N0 (λa w c i=>i w c) l a w c h)
 ·cases draw with
  |false=>exact Y7 b d (N0 (λa w c i=>i w c) l a w c h)
  |true=>
   simp only[Region.lexB,Agu]at hB;refine RZ b d hm (wpAny_of_quiet (Q:=λg=>∀w',C w'->Q .normal g w') (λ_ w' j h=>h w' j) _ _ _ _ (hd w c) ?_);have:=wpAnyQ_lex (C:=C) (md:= .any) hB.1 l 0 (Array.replicate l.toArray.size false) a (by simp) (by simpa using hB.2) h;simpa using this
def Wd.drew{B h w}(k:Wd B h w):Wd B h { w with drawn:=w.drawn+1}:=⟨k.heap,k.os,k.tape,k.out⟩
section
variable{P:Program}{ex:List (Nat×AP)}{R N:AP}{cs:List Code}{a:Act}{w:World}{B:World}{h:AV}{l:List Oper}{id:Nat}{draw:Bool}{S:Nat->Prop}{L:List HP}
def Aey(b:jB P l draw)(c:Wd B h w)(k:wpQuiet P l.toArray (Wd B h) (λd=>∀w',Wd B h w'->W P ex R cs N d w') l a):W P ex R (.region id l.toArray draw::cs) N a w:=
 λ_ hd=>Xz hd OY b c (λ_=>Wd.drew) k
def Ae0(i:jB P l draw)(j:Wd B h w)(g:St S L h)(k:wpQuiet P l.toArray (Cl B h) (λb=>∀w' h',Wd B h' w'->St S L h'->CO S h S h'->W P ex R cs N b w') l a):W P ex R (.region id l.toArray draw::cs) N a w:=by
 intro rd hd;refine Xz (C:=Cl B h) hd OY i ⟨h,j,Ef.refl h⟩ (λw ⟨h',d,c⟩=>⟨h',d.drew,c⟩) ?_;refine Vm l.length (λb=>∀w' h',Wd B h' w'->St S L h'->CO S h S h'->W P ex R cs N b w') (by simpa using k) λb m=>?_;simp only[List.drop_length];exact λw' ⟨h',d,c⟩=>m w' h' d (c.st g) (c.ext g.1)
def Aez(k:wpList P l.toArray (Qx ex R (W P ex R cs N)) l a w):W P ex R (.region id l.toArray false::cs) N a w:=λ_ hd=>Y7 hd OY k
end
def tC{ex:List (Nat×AP)}(h:N a w):wpList P ops (Qx ex R N) [] a w:=h
def Rb{P:Program}{ops:Array Oper}{Q:Exit->Act->World->Prop}:∀(k:Nat)(l:List Oper)(a:Act)(w:World),
  wpList P ops (Exit.then (wpList P ops Q (l.drop k)) Q) (l.take k) a w->wpList P ops Q l a w
 |0,l,a,w,h=>by simpa[wpList,Exit.then]using h
 |k+1,[],a,w,h=>by simpa[wpList,Exit.then]using h
 |k+1,o::l,a,w,h=>by
  simp only[List.take_succ_cons,List.drop_succ_cons]at h;unfold wpList at h ⊢;split
  ·rename_i g;rw[Agp g]at h;rcases h with b|⟨b,i,j,h2⟩
   ·refine .inl ?_;unfold Oper.wp at b ⊢;generalize (execOp a.eval o).run P w=r at b
    cases r with
    |ok p w'=>
     cases p<;>simp only[Oper.upon]at b ⊢
     case value v=>exact Rb k l _ _ b
     case skip=>exact Rb k l _ _ b
     case defer d=>exact Rb k l _ _ b
     case enter f args=>
      refine b.mono λe m n=>?_;cases e with
      |returned v=>exact Rb k l _ _ n
      |panicked c=>exact n
      |outgrown=>obtain⟨i,j,h0⟩:=n;exact⟨i,j,h0⟩
     case row r args=>obtain b:=b;exact Rows.mono b λv m q=>Rb k l _ _ q
    |halt x w'=>cases x<;>simp only[Oper.upon]at b ⊢;exact b
   ·exact .inr ⟨b,i,j,h2⟩
  ·rename_i g;rw[Agn g]at h;exact Rb k l _ _ h
def l_q{Q:Exit->Act->World->Prop}{h:AV}(k:Nat)(b:Wd B h w)
  (c:wpQuiet P ops (Wd B h) (λd=>∀w',Wd B h w'->wpList P ops Q (l.drop k) d w') (l.take k) a):wpList P ops Q l a w:=
 Rb k l a w (N0 (Q:=Exit.then (wpList P ops Q (l.drop k)) Q) (λ_ w b g=>g w b) (l.take k) a w b c)
def CG(P:Program)(f:FuncId)(a:Array Value)(S:Nat->Prop)(h:AV)(post:Value->(Nat->Prop)->AV->Prop):Prop:=
 ∀B w,Wd B h w->Calls P f a w λe w'=>∃v S' h',e= .returned v/\Wd B h' w'/\CO S h S' h'/\post v S' h'
def CG.mono{P f args S h}{a:Value->(Nat->Prop)->AV->Prop}(k:CG P f args S h post)(c:∀v S' h',CO S h S' h'->post v S' h'->a v S' h'):CG P f args S h a:=
 λB w d=>(k B w d).mono λ_ _ ⟨v,S',h',g,i,b,j⟩=>⟨v,S',h',g,i,b,c v S' h' b j⟩
def ZW:Nat->List Value->List (Nat×Value)
 |_,[]=>[]
 |i,v::r=>(i,v)::ZW (i+1) r
def aJ:∀(l:List Value)(k i:Nat)(v:Value),lk (ZW k l) i=some v->k<=i/\l[i-k]? =some v
 |[],k,i,v,h=>by simp[ZW,lk]at h
 |u::r,k,i,v,h=>by
  simp only[ZW,lk]at h;cases a:Nat.beq k i with
  |true=>
   rw[a]at h;have:=Ag1 a;subst this;simp only[Ago,Ahv]at h;exact⟨Ag5 _,by simpa using h⟩
  |false=>
   rw[a]at h;simp only[Agq]at h;obtain⟨c,b⟩:=aJ r (k+1) i v h;refine⟨Ω,?_⟩;have:i-k=(i-(k+1))+1:=Ω
   rw[this];simpa using b
def Fr.args{n:Nat}{l:List Value}(h:l.length<=n):Fr (n,[]) ⟨l.toArray++Array.replicate (n-l.toArray.size) undef,[]⟩ (ZW 0 l):=by
 refine⟨rfl,by simp;omega,λi v c=>?_⟩;obtain⟨_,a⟩:=aJ l 0 i v c;have b:i<l.length:=by have:=(Ag0.1 a).1;omega
 simp only[Nat.sub_zero]at a;rw[Akg (by simpa using b)];simpa using a
def tA(a:List Nat):List Deferred:=a.map λD=>{ target:= .collected D,args:= #[]}
def Rt(P:Program)(fn:Func)(B:World)(S:Nat->Prop)(h:AV)(post:Value->(Nat->Prop)->AV->Prop):AP:=λa w=>
 ∃d:List Nat,a.defers=tA d/\d.Nodup/\(∀D,D∈d->w.heap[D]? =some (.deferred (some [])))/\
  ∀c:World,c.os=w.os->c.tape=w.tape->c.output=w.output->c.heap.size=w.heap.size->(∀b,b∉d->c.heap[b]? =w.heap[b]?)->
   ∃v,(results fn a.tmps).run P c= .ok v c/\∃S' h',Wd B h' c/\CO S h S' h'/\post v S' h'
def V1{a:World}(g:a.heap.size=w.heap.size)(j:∀b,b∉([]:List Nat)->a.heap[b]? =w.heap[b]?):a.heap=w.heap:=by
 apply Array.ext g;intro i c d;have:=j i Aha;rw[Ai8 c,Ai8 d]at this;exact Ags this
def mY{fn:Func}{S:Nat->Prop}{h:AV}{v:Value}{S':Nat->Prop}{h':AV}(hd:a.defers=[])(g:∀w:World,Wd B h' w->(results fn a.tmps).run P w= .ok v w)(c:Wd B h' w)(e:CO S h S' h')(k:post v S' h'):Rt P fn B S h post a w:=
 ⟨[],hd,List.nodup_nil,λD i=>(by cases i),λd j l m n o=>by
  have p:=V1 n o;have b:Wd B h' d:=⟨p.trans c.heap,j.trans c.os,l.trans c.tape,m.trans c.out⟩
  exact⟨v,g d b,S',h',b,e,k⟩⟩
def aL{P:Program}{fn:Func}{c:Array Value}{R:Ending->World->Prop}:∀(d:List Nat)(w:World),d.Nodup->(∀D,D∈d->w.heap[D]? =some (.deferred (some [])))->
  (∀a:World,a.os=w.os->a.tape=w.tape->a.output=w.output->a.heap.size=w.heap.size->(∀b,b∉d->a.heap[b]? =w.heap[b]?)->∃v,(results fn c).run P a= .ok v a/\R (.returned v) a)->
  LeavesInM Fence.wide 0 P fn c R (tA d) .returning w
 |[],w,_,_,k=>by
  obtain⟨v,i,j⟩:=k w rfl rfl rfl rfl λ_ _=>rfl;exact⟨v,i,j⟩
 |D::d,w,q,o,k=>by
  obtain⟨l,m⟩:=Ajh.1 q;have hd:=o D (Ahf ..);have n:(w.putObj D (.deferred none)).heap.size=w.heap.size:=by simp[World.putObj]
  refine⟨by simp,.inl ⟨D,_,rfl,run_takeDeferred hd,aL d _ m (λs g=>?_) λa i j t u x=>k a i j t (u.trans n) λb p=>?_⟩⟩
  ·rw[World.putObj_heap_other (λe=>l (by rw[<-e];exact g))];exact o s (Aht _ g)
  ·rw[x b λh=>p (Aht _ h),World.putObj_heap_other (λe=>p (by rw[e];exact Ahf ..))]
def CG.intro{P f fn c l S h post}(n:Nat)(g:P.funcs[f]? =some fn)(j:fn.body=some c)(m:fn.ntmps=n)(o:l.length<=n)
  (k:∀B w a,Wd B h w->Fr (n,[]) a (ZW 0 l)->W P [] (Rt P fn B S h post) [c] (Rt P fn B S h post) a w):CG P f l.toArray S h post:=by
 intro B w p;subst m;refine(callsIn_wide (n:=0)).1 (callsIn_of_wp_marks g j trivial (wpIn_mono (k B w _ p (Fr.args o) none (.inl rfl)) λe d w' q=>?_));have b:Rt P fn B S h post d w'->LeavesInM Fence.wide 0 P fn d.tmps (λe w'=>∃v S' h',e= .returned v/\Wd B h' w'/\CO S h S' h'/\post v S' h') d.defers .returning w':=by
  rintro⟨s,t,u,x,y⟩;rw[t];refine aL s w' u x λz A C D F G=>?_;obtain⟨v,H,S',h',I,J,K⟩:=y z A C D F G;exact⟨v,H,v,S',h',rfl,I,J,K⟩
 cases e with
 |normal=>exact b q
 |ret=>exact b q
 |exit i=>simp only[Qx,xB]at q
 |goto l=>exact q.elim
 |panic c=>exact q.elim
 |outgrown=>exact q.elim
section
variable{P:Program}{fn:Func}{B:World}{S S':Nat->Prop}{h h':AV}{post:Value->(Nat->Prop)->AV->Prop}{n:FN}{a:Act}{m:List (Nat×Value)}{w:World}
def rt1{t v}(b:Fr (k,[]) a m)(c:fn.results= #[.tmp t])(d:lk m t=some v)(g:Wd B h' w)(e:CO S h S' h')(k:post v S' h'):Rt P fn B S h post a w:=by
 refine mY b.dfr (λw _=>?_) g e k;rw[results_tmp c];have:=b.eval (X:= .tmp t) d;simp only[Act.eval]at this;rw[this]
end
def YR(i:Fr n a m){b:List Value}(c:xs.toList.mapM (B5 m)=some b):xs.map a.eval=b.toArray:=by
 obtain⟨l⟩:=xs;simp only at c;have:l.map a.eval=b:=by
  induction l generalizing b with
  |nil=>simp at c;subst c;rfl
  |cons x l j=>
   simp only[Ai9,Ajp,Aiq]at c;obtain⟨y,k,o,g,d⟩:=c;simp only[Ajq,Ahv]at d;subst d;simp only[Ag9,i.eval k,j g]
 rw[<-this];simp
def BI(P:Program)(f:FuncId):Bool:=
 match P.funcs[f]? with
 |some fn=> !(fn.name== "runtime.NumGoroutine")&&fn.body.isSome
 |none=>false
def Xw{d:Option Nat}{ty:TypeId}{p:Array Edge}{i:Array TypeId}
  {c vs:List Value} {first cap:Array Value}
  (o:Fr n a m) (q:B5 m X=some (.func (.func f) first cap)) (j:xs.toList.mapM (B5 m)=some c) (k:first.toList++c++cap.toList=vs) (b:BI P f=true):
  (execOp a.eval ⟨d,.call ⟨.value X,xs,i⟩,ty,g,p,none⟩).run P w= .ok (.enter f vs.toArray) w:=by
 have s:first++c.toArray++cap=vs.toArray:=by
  rw[<-k];apply Array.ext';simp
 unfold BI at b;split at b
 ·rename_i fn l;simp only[Agu,Ahn] at b;have t:¬fn.name= "runtime.NumGoroutine" :=by simpa using b.1
  have u:¬fn.body=none:=by intro h0;rw[h0]at b;simp at b
  simp only[execOp,resolve,o.eval q,Deferred.ofValue,YR o j];simp[invoke,callFunc,l,t,u,s]
 ·cases b
def kD{Q:Exit->Act->World->Prop}{b:List Oper}{ty:TypeId}{q:Array Edge}{i:Array TypeId}
  {c vs:List Value} {first cap:Array Value} {S h B w} {post:Value->(Nat->Prop)->AV->Prop}
  (p:Fr n a m) (s:B5 m X=some (.func (.func f) first cap)) (j:xs.toList.mapM (B5 m)=some c) (l:first.toList++c++cap.toList=vs) (o:BI P f=true) (hd:Nat.blt d n.1=true)
  (t:Wd B h w) (u:CG P f vs.toArray S h post)
  (k:∀v a w S' h',Fr n a ((d,v)::m)->Wd B h' w->CO S h S' h'->post v S' h'->wpList P ops Q b a w):
  wpList P ops Q (⟨some d,.call ⟨.value X,xs,i⟩,ty,g,q,none⟩::b) a w:=by
 refine wpList_plain rfl λK x=>?_;unfold Oper.wp;rw[Xw p s j l o];refine(u B w t).mono λe w' ⟨v,S',h',y,z,A,C⟩=>?_;subst y;exact x _ _ (k v _ w' S' h' (p.put hd v) z A C)
def wQ{Q:Act->Prop}{c:List Oper}{ty:TypeId}{i:String}{y:Array Edge}{j:Array TypeId}
  {g vs:List Value} {first cap:Array Value} {h B} {v:Value}
  (t:Fr n a m) (z:B5 m X=some (.func (.func f) first cap)) (l:xs.toList.mapM (B5 m)=some g) (p:first.toList++g++cap.toList=vs) (q:BI P f=true) (hd:Nat.blt d n.1=true)
  (A:∀h',Ef h h'->CG P f vs.toArray (λb=>b<h'.size) h' (λu _ _=>u=v))
  (k:∀a,Fr n a ((d,v)::m)->wpQuiet P ops (Cl B h) Q c a):
  wpQuiet P ops (Cl B h) Q (⟨some d,.call ⟨.value X,xs,j⟩,ty,i,y,none⟩::c) a:=by
 unfold wpQuiet;rw[Agp (by simp[Region.wanted])];refine⟨v,λw ⟨h',C,o⟩=>?_,k _ (t.put hd v)⟩;unfold Oper.quietAt;rw[Xw t z l p q];refine⟨rfl,(A h' o B w C).mono λJ w' ⟨u,D,s,F,G,x,H⟩=>?_⟩;subst F;subst H;exact⟨rfl,s,G,o.trans ⟨x.siz,λb I=>x.same b I⟩⟩
def St.all(h:AV):St (λb=>b<h.size) [] h:=⟨λ_ x=>x,trivial⟩
def E8(P:Program)(t:TypeId):Option (List Value):=((P.info? t).bind (·.zero)).map (·.cells.toList)
def Bx(b:Nat)(T:TypeId)(cs:List Value):HP where
 holds:=λ_ F h=>(∀c,F c↔c=b)/\h[b]? =some (.cells cs.toArray T (0,0))
 loc:=λ⟨a,d⟩ _ e=>⟨a,(e _ (.inr ((a _).2 rfl))).trans d⟩
def Bx.cell{b T cs S F h}(k:(Bx b T cs).holds S F h)(j:Nat):KE h ⟨b,j,none⟩=cs[j]? :=by simp[KE,k.2]
def I5(h:AV)(o:Obj)(b:Nat)(a:b<h.size):(h.push o)[b]? =h[b]? :=by rw[Array.getElem?_push,Agn Ω]
def NH(h:AV)(o:Obj):(h.push o)[h.size]? =some o:=by simp
def Wd.alloc{B h w}(k:Wd B h w)(o:Obj):Wd B (h.push o) (w.alloc o):=⟨by show(w.heap.push o)=_;rw[k.heap],k.os,k.tape,k.out⟩
def St.push{S L h}(c:St S L h)(T:TypeId)(cs:List Value):St S (Bx h.size T cs::L) (h.push (.cells cs.toArray T))/\CO S h S (h.push (.cells cs.toArray T)):=
 c.add (by simp) (λb a=>I5 _ _ _ a) ⟨λb=>b=h.size,⟨λ_=>Iff.rfl,NH _ _⟩,λb a=>by subst a;simp⟩
section
variable{P:Program}{ops:Array Oper}{Q:Exit->Act->World->Prop}{n:FN}{a:Act}{m:List (Nat×Value)}{rest:List Oper}
variable{d:Nat}{ty:TypeId}{pos:String}{af:Array Edge}{X:Operand}{B w:World}{h:AV}{S:Nat->Prop}{L:List HP}
def tD{T:TypeId}{v:Value}{cs:List Value}(g:Fr n a m)(j:B5 m X=some v)(l:v.cells=cs.toArray)(hd:Nat.blt d n.1=true)(i:Wd B h w)(o:St S L h)
  (k:∀b a w h',Fr n a ((d,.pointer (some ⟨b,0,none⟩))::m)->Wd B h' w->St S (Bx b T cs::L) h'->CO S h S h'->wpList P ops Q rest a w):
  wpList P ops Q (⟨some d,.box T X,ty,pos,af,none⟩::rest) a w:=by
 refine wpList_plain rfl λK p=>?_;unfold Oper.wp;have c:(execOp a.eval ⟨some d,.box T X,ty,pos,af,none⟩).run P w= .ok (.value (.pointer (some ⟨w.heap.size,0,none⟩))) (w.alloc (.cells cs.toArray T)):=by
  simp[execOp,g.eval j,Instr.box,newVar,newRow,l]
 rw[c];obtain⟨q,s⟩:=o.push T cs;exact p _ _ (k _ _ _ _ (g.put hd _) (i.alloc _) (by rw[i.heap];exact q) s)
def xD{T:TypeId}{v:Value}{α}{r:A9 α}{x:α}(y:Fr n a m)(z:B5 m X=some v)(A:Rd S h r v x)(C:r.ag=false->r.sz=1)(hd:Nat.blt d n.1=true)(D:Wd B h w)(G:St S L h)
  (k:∀p a w S' h',Fr n a ((d,p)::m)->Wd B h' w->St S' L h'->CO S h S' h'->Pt S' h' r p x->wpList P ops Q rest a w):
  wpList P ops Q (⟨some d,.box T X,ty,pos,af,none⟩::rest) a w:=by
 obtain⟨cs,H,g⟩:=A;have I:v.cells=cs.toArray:=by
  subst H;unfold A9.val;cases i:r.ag with
  |true=>rfl
  |false=>
   have t:=r.len g;rw[C i]at t
   match cs,t,g with
   |[c],_,g=>
    have J:=r.one g c (by simp);cases c<;>first|rfl|(simp[Value.oneCell']at J)
 refine tD y z I hd D G λb a w h' l o q e=>?_;obtain⟨F,u,M,K,s⟩:=q.pub .head;refine k _ a w _ h' l o K (e.trans s) ⟨cs,⟨⟨b,0,none⟩,rfl,rfl,.inr ((u.1 _).2 rfl),λj U=>?_⟩,r.mono (r.mono g e.sub e.same) s.sub s.same⟩;simp only[Ahw];exact Bx.cell u j
def Afh{T:TypeId}{cs:List Value}(o:Fr n a m)(c:E8 P T=some cs)(hd:Nat.blt d n.1=true)(l:Wd B h w)(p:St S L h)
  (k:∀b a w h',Fr n a ((d,.pointer (some ⟨b,0,none⟩))::m)->Wd B h' w->St S (Bx b T cs::L) h'->CO S h S h'->wpList P ops Q rest a w):
  wpList P ops Q (⟨some d,.alloc T,ty,pos,af,none⟩::rest) a w:=by
 refine wpList_plain rfl λK q=>?_;unfold Oper.wp;unfold E8 at c;simp only[Ah6,Aiq]at c;obtain⟨z,⟨i,s,c⟩,j⟩:=c;have t:z.cells=cs.toArray:=by rw[<-j]
 have g:(execOp a.eval ⟨some d,.alloc T,ty,pos,af,none⟩).run P w= .ok (.value (.pointer (some ⟨w.heap.size,0,none⟩))) (w.alloc (.cells cs.toArray T)):=by
  simp[execOp,Instr.alloc,newVar,newRow,zeroValue,typeInfo,s,c,t]
 rw[g];obtain⟨u,v⟩:=p.push T cs;exact q _ _ (k _ _ _ _ (o.put hd _) (l.alloc _) (by rw[l.heap];exact u) v)
def IY(cs:List Value)(o:Nat)(vs:List Value):List Value:=cs.take o++vs++cs.drop (o+vs.length)
def R7(w:World)(g:Nat)(cur c':Array Value)(T:TypeId)(a:w.heap[g]? =some (.cells cur T (0,0))):
  ∃h',(w.setRow g c').heap=h'/\h'.size=w.heap.size/\h'[g]? =some (.cells c' T (0,0))/\∀b,b≠g->h'[b]? =w.heap[b]? :=by
 refine⟨_,rfl,?_,setRow_heap w g cur _ T _ a,λb c=>setRow_other w g b _ c⟩;simp[World.setRow]
def Afe{T d:TypeId}{b o:Nat}{v:Value}{cs:List Value}{A:List HP}{sz:Nat}(t:Fr n a m)(I:B5 m X=some (.pointer (some ⟨b,o,none⟩)))(J:B5 m Y=some v)(U:v.cells=vs.toArray)(V:∀u∈vs,u.oneCell'=true)
  (W:LD P T sz ag=true) (x:vs.length=sz) (g:Nat.ble (o+sz) cs.length=true) (Z:IY cs o vs=cs') (j:Wd B h w) (C:St S L h) (r:Nm L (Bx b d cs) (Bx b d cs') A)
  (k:∀a w h',Fr n a m->Wd B h' w->St S A h'->CO S h S h'->wpList P ops Q rest a w):
  wpList P ops Q (⟨none,.store T X Y,ty,pos,af,none⟩::rest) a w:=by
 refine wpList_plain rfl λK hK=>?_;unfold Oper.wp;obtain⟨M,p,_⟩:=r.pick;obtain⟨F,g1,g2,_⟩:=Sp.pick p C.2;have D:w.heap[b]? =some (.cells cs.toArray d (0,0)):=by rw[j.heap];exact g1.2
 obtain⟨i,dd,hi,hd,y,aa⟩:=R0 W;have l:=run_storeCells_at P b o d vs 0 cs.toArray w D (by simp;have:=Ajr g;omega) V;have q:(List.take (o+0) cs.toArray.toList++vs++List.drop (o+0+vs.length) cs.toArray.toList)=cs':=by rw[<-Z];simp[IY]
 rw[q]at l;have s:(execOp a.eval ⟨none,.store T X Y,ty,pos,af,none⟩).run P w= .ok .skip (w.setRow b cs'.toArray):=by
  simp[execOp,t.eval I,t.eval J,Instr.storeAt,Instr.sureAddr,storeVar,U,Su hi,y,x,l]
 rw[s];obtain⟨h',e1,e2,e3,G⟩:=R7 w b cs.toArray cs'.toArray d D;rw[j.heap]at e2 G;obtain⟨u1,u2⟩:=C.upd (h':=h') r Ω λF H k2=>⟨F,⟨H.1,e3⟩,λc z=> .inl z,λc _ z=>G c λe=>z ((H.1 c).2 e)⟩
 exact hK _ _ (k _ _ h' t ⟨e1,j.os,j.tape,j.out⟩ u1 u2)
end
def dN(vs:List Value):∀(cs:List Value)(o k:Nat),o+k+vs.length<=cs.length->
  (vs.zipIdx k).foldl (λcs (p:Value×Nat)=>cs.set (o+p.2) p.1) cs=cs.take (o+k)++vs++cs.drop (o+k+vs.length):=by
 induction vs with
 |nil=>intro cs o k h;simp
 |cons v vs b=>
  intro cs o k h;simp only[Ain]at h;simp only[List.zipIdx_cons,List.foldl_cons];rw[b (cs.set (o+k) v) o (k+1) (by simp;omega)];have a:o+k<cs.length:=Ω
  have c:o+(k+1)=(o+k)+1:=Ω
  have d:o+k+1+vs.length=o+k+(vs.length+1):=Ω
  rw[c,d,List.drop_set_of_lt Ω,Ain,Ah8 (by simpa using a),List.getElem_set_self,List.take_set_of_le Ω];simp
def Uq(f:Nat->Nat):∀(l:List (Value×Nat))(cs:List Value),
  l.foldl (λ(cs:Array Value)(p:Value×Nat)=>cs.setIfInBounds (f p.2) p.1) cs.toArray=(l.foldl (λcs (p:Value×Nat)=>cs.set (f p.2) p.1) cs).toArray
 |[],cs=>rfl
 |p::l,cs=>by
  simp only[List.foldl_cons];rw[List.setIfInBounds_toArray,Uq f l]
def Nh(a:List (Nat×Nat)):List Value->List (Nat×Value)->Option (List Value)
 |cs,[]=>some cs
 |cs,(i,v)::r=>match a[i]? with
  |none=>none
  |some (off,sz)=>cond (Nat.beq v.cells.toList.length sz&&Nat.ble (off+sz) cs.length) (Nh a (IY cs off v.cells.toList) r) none
def PG(a:List (Nat×Nat)):∀(pv:List (Nat×Value))(cs cs':List Value),Nh a cs pv=some cs'->Instr.fill (a.toArray[·]?) cs.toArray pv=some cs'.toArray
 |[],cs,cs',h=>by simp[Nh]at h;subst h;rfl
 |(i,v)::r,cs,cs',h=>by
  simp only[Nh]at h;split at h
  ·cases h
  ·rename_i off sz g;cases b:(Nat.beq v.cells.toList.length sz&&Nat.ble (off+sz) cs.length)with
   |false=>rw[b]at h;cases h
   |true=>
    rw[b]at h;simp only[Ago]at h;simp only[Agu]at b;have j:v.cells.size=sz:=by simpa using Ag1 b.1
    have l:=Ajr b.2;have k:=PG a r _ cs' h;have d:a.toArray[i]? =some (off,sz):=by simpa using g
    simp only[Instr.fill,d];rw[Agn (by simp[j];omega)];have c:v.cells.zipIdx.foldl (λ(cs:Array Value)(p:Value×Nat)=>cs.setIfInBounds (off+p.2) p.1) cs.toArray=(IY cs off v.cells.toList).toArray:=by
     rw[<-Array.foldl_toList,Array.toList_zipIdx,Uq (off+ ·),dN _ _ _ _ (by simp;omega)];simp[IY]
    exact(Agt (λx=>Instr.fill (a.toArray[·]?) x r) c).trans k
def To(P:Program)(T:TypeId):Option (List (Nat×Nat)×List Value):=
 match P.underlying T,E8 P T with
 |some (.struct a),some z=>(a.toList.mapM (λf=>(P.info? f.type).map λi=>(f.offset,i.size))).map λb=>(b,z)
 |_,_=>none
def Yb{T:TypeId}{pl z pv cs}(h:To P T=some (pl,z))(g:Nh pl z pv=some cs):P.built T pv=some cs.toArray:=by
 unfold To at h;split at h
 ·rename_i n j k a;simp only[Ah6,Aja]at h;obtain⟨b,l,rfl,rfl⟩:=h;unfold E8 at a;simp only[Ah6,Aiq]at a;obtain⟨o,⟨i,m,c⟩,d⟩:=a;simp only[Program.built,m,k,c,l];have:=PG b pv j cs g;rw[<-d]at this;simpa using this
 ·cases h
def N3:Value->Nat
 | .int _ _=>1| .bool _=>2| .string _=>3|_=>0
def WA:Value->Value->Bool
 | .int _ a,.int _ b=>decide (a=b)
 | .bool a,.bool b=>a==b
 | .string a,.string b=>a==b
 |_,_=>false
def Rf:List Value->List Value->Bool
 |[],_=>true
 |_::_,[]=>true
 |a::r,b::s=>WA a b&&Rf r s
section
variable{P:Program}{ops:Array Oper}{C:World->Prop}{Q:Act->Prop}{n:FN}{a:Act}{m:List (Nat×Value)}{rest:List Oper}
variable{d:Nat}{ty:TypeId}{pos:String}{af:Array Edge}{X Y:Operand}
def cZ(m:List (Nat×Value))(p:Nat×Operand):Option (Nat×Value):=(B5 m p.2).map λv=>(p.1,v)
def Ace{T:TypeId}{b:Array (Nat×Operand)}{pl z pv cs}(o:Fr n a m)(s:To P T=some (pl,z))(c:b.toList.mapM (cZ m)=some pv)(q:Nh pl z pv=some cs)(hd:Nat.blt d n.1=true)
  (k:∀a,Fr n a ((d,.agg cs.toArray)::m)->wpQuiet P ops C Q rest a):wpQuiet P ops C Q (⟨some d,.build T b,ty,pos,af,none⟩::rest) a:=by
 refine GH o hd (λw _=>?_) k;have i:(b.map λ(p:Nat×Operand)=>(p.1,a.eval p.2)).toList=pv:=by
  obtain⟨l⟩:=b;simp only at c;simp only[List.map_toArray];clear q k
  induction l generalizing pv with
  |nil=>simp at c;subst c;rfl
  |cons x l t=>
   simp only[Ai9,Ajp,Aiq,cZ,Ah6]at c;obtain⟨y,⟨v,u,rfl⟩,A,j,g⟩:=c;simp only[Ajq,Ahv]at g;subst g;simp only[Ag9,o.eval u,t j]
 have:=run_build (P:=P) w T (b.map λ(p:Nat×Operand)=>(p.1,a.eval p.2)) cs.toArray (by rw[i];exact Yb s q);simp only[execOp,Sem.run_bind,this];rfl
def eI(P:Program)(T:TypeId):Option (List Nat):=
 if P.stoodInHeld T||P.eqGuardType P.depth T then none else
 match P.underlying T with
 |some (.struct a)=>a.toList.zipIdx.mapM λ(f,i)=>
  if f.name== "_" || !Nat.beq f.offset i then none else
  match P.underlying f.type with
  |some (.int _)=>some 1
  |some .bool=>some 2
  |some .string=>some 3
  |_=>none
 |_=>none
def SA{w:World}:∀(C:List Field)(ks:List Nat)(i d:Nat)(xs c:List Value),
  (C.zipIdx i).mapM (λ(p:Field×Nat)=>if p.1.name== "_" || !Nat.beq p.1.offset p.2 then none else
   match P.underlying p.1.type with
   |some (.int _)=>some 1
   |some .bool=>some 2
   |some .string=>some 3
   |_=>none)=some ks->(xs.drop i).map N3=ks->(c.drop i).map N3=ks->(∀(j:Nat)(F:IntKind)(n1:Int)(Z:IntKind)(n2:Int),xs[j]? =some (Value.int F n1)->c[j]? =some (Value.int Z n2)->F=Z)->
  (Op.eqFields (d+1) xs.toArray c.toArray C).run P w= .ok (Rf (xs.drop i) (c.drop i)) w
 |[],ks,i,d,xs,c,h,l,m,G=>by
  simp at h;subst h;have h1:xs.drop i=[]:=by simpa using l
  rw[h1];rfl
 |f::C,ks,i,d,xs,c,h,l,m,G=>by
  simp only[List.zipIdx_cons,Ai9,Ajp,Aiq]at h;obtain⟨F,a,H,t,u⟩:=h;simp only[Ajq,Ahv]at u;subst u;split at a
  ·cases a
  ·rename_i g;simp only[Ahg,not_or,Bool.not_eq_true,Ahn,Bool.not_eq_false] at g;obtain⟨I,J⟩:=g;have v:=Ag1 J;have K:f.name≠ "_" :=by simpa using I
   cases n:xs.drop i with
   |nil=>rw[n]at l;simp at l
   |cons x xr=>
   cases o:c.drop i with
   |nil=>rw[o]at m;simp at m
   |cons y yr=>
   rw[n]at l;rw[o]at m;simp only[Ag9,List.cons.injEq]at l m;have q:xs[i]? =some x:=by have:=Agt (·[0]?) n;simpa using this
   have s:c[i]? =some y:=by have:=Agt (·[0]?) o;simpa using this
   have A:xs.drop (i+1)=xr:=by have:=Agt List.tail n;simpa[List.tail_drop]using this
   have B:c.drop (i+1)=yr:=by have:=Agt List.tail o;simpa[List.tail_drop]using this
   have D:=SA (w:=w) C H (i+1) d xs c t (by rw[A];exact l.2) (by rw[B];exact m.2) G;rw[A,B]at D;have b:∀M,P.underlying f.type=some M->qV M=false->∀(Q:List Value) z,Q[i]? =some z->(part f.type Q.toArray f.offset).run P w= .ok z w:=by
    intro M U b Q z hz;simp[part,Vk U,b,v,hz]
   simp only[Op.eqFields,Agp K,Sem.run_bind,Rf];split at a
   ·rename_i kk k;simp only[Ahv]at a;subst a;rw[b _ k rfl xs x q];simp only[Result.andThen_ok];rw[b _ k rfl c y s];simp only[Result.andThen_ok];cases x<;>simp[N3]at l;cases y<;>simp[N3]at m;rename_i ka V kb W;have:=G i ka V kb W q s;subst this;rw[run_equalIn_int w d f.type ka kk V W k];simp only[Result.andThen_ok,WA,Sem.run_ite,Sem.run_pure];rw[T6];cases decide (V=W)<;>simp[D]
   ·rename_i k;simp only[Ahv]at a;subst a;rw[b _ k rfl xs x q];simp only[Result.andThen_ok];rw[b _ k rfl c y s];simp only[Result.andThen_ok];cases x<;>simp[N3]at l;cases y<;>simp[N3]at m;rw[run_equalIn_bool' w d f.type _ _ k];simp only[Result.andThen_ok,WA,Sem.run_ite,Sem.run_pure];rename_i X Y;cases(X==Y)<;>simp[D]
   ·rename_i k;simp only[Ahv]at a;subst a;rw[b _ k rfl xs x q];simp only[Result.andThen_ok];rw[b _ k rfl c y s];simp only[Result.andThen_ok];cases x<;>simp[N3]at l;cases y<;>simp[N3]at m;rw[run_equalIn_string w d f.type _ _ k];simp only[Result.andThen_ok,WA,Sem.run_ite,Sem.run_pure];rename_i X Y;rw[beq_toListBytes];cases(X.toList==Y.toList)<;>simp[D]
   ·cases a
def R9:List Value->List Value->Bool
 | .int k _::r,.int l _::s=>decide (k=l)&&R9 r s
 |_::r,_::s=>R9 r s
 |_,_=>true
def UW:∀(xs p:List Value),R9 xs p=true->∀(j:Nat)(c:IntKind)(m:Int)(d:IntKind)(n:Int),xs[j]? =some (Value.int c m)->p[j]? =some (Value.int d n)->c=d
 |[],_,_,j,_,_,_,_,h,_=>by simp at h
 |_::_,[],_,j,_,_,_,_,_,h=>by simp at h
 |x::r,y::s,h,0,c,m,d,n,g,i=>by
  simp only[Aiw,Ahv]at g i;subst g;subst i;simp only[R9,Agu,Ahb]at h;exact h.1
 |x::r,y::s,h,j+1,c,m,d,n,g,i=>by
  simp only[Air]at g i;refine UW r s ?_ j c m d n g i;unfold R9 at h;split at h
  ·rename_i k l;simp only[Agu]at h;injection k with k a;injection l with l b
   subst a;subst b;exact h.2
  ·rename_i k l;injection k with k a;injection l with l b
   subst a;subst b;exact h
  ·rename_i q o;exact absurd rfl (o _ _ _ _ rfl)
def YJ{T:TypeId}{xs a:List Value}(h:eI P T=some ks)(j:xs.map N3=ks)(k:a.map N3=ks)(l:R9 xs a=true):
  (Op.equalIn 10000 T (.agg xs.toArray) (.agg a.toArray)).run P w= .ok (Rf xs a) w/\∀(c:BinOp)(x y:Operand),(eqGuard c T x y (.agg xs.toArray) (.agg a.toArray)).run P w= .ok () w:=by
 unfold eI at h;split at h
 ·cases h
 ·rename_i d;simp only[Ahg,not_or,Bool.not_eq_true]at d;split at h
  ·rename_i g i;refine⟨?_,λc x y=>run_eqGuard_agg w c T x y _ _ d.2⟩;have b:P.fieldsOf T=g:=by simp[Program.fieldsOf,i]
   have:=run_equalIn_struct (P:=P) w 9999 T xs.toArray a.toArray (by rw[b];exact i) d.1;rw[this,b];exact SA g.toList ks 0 9998 xs a h (by simpa using j) (by simpa using k) (UW xs a l)
  ·cases h
def Abx{T t2:TypeId}{ks xs ys}(b:Fr n a m)(i:B5 m X=some (.agg xs))(j:B5 m Y=some (.agg ys))(l:eI P T=some ks)(o:xs.toList.map N3=ks)(p:ys.toList.map N3=ks)(q:R9 xs.toList ys.toList=true)(hd:Nat.blt d n.1=true)
  (k:∀a,Fr n a ((d,.bool (!Rf xs.toList ys.toList))::m)->wpQuiet P ops C Q rest a):wpQuiet P ops C Q (⟨some d,.binOp .neq T X Y t2,ty,pos,af,none⟩::rest) a:=
 GH b hd (λw _=>by
  obtain⟨c,g⟩:=YJ (w:=w) l o p q;simp only[Array.toArray_toList]at c g;simp[execOp,b.eval i,b.eval j,g,run_neq_struct,c]) k
def Ab6{S:Nat->Prop}{L:List HP}{h:AV}{t b o sz:Nat}{cs:List Value}(q:CK C h)(s:St S L h)(l:Fr n a m)(u:B5 m X=some (.pointer (some ⟨b,o,none⟩)))(v:Bx b T cs∈L)(x:(cs.drop o).take sz=vs)(y:Nat.beq vs.length sz=true)(z:LD P t sz ag=true)(A:(ag||Nat.beq sz 1)=true)(hd:Nat.blt d n.1=true)
  (k:∀a,Fr n a ((d,if ag then .agg vs.toArray else vs.headD undef)::m)->wpQuiet P ops C Q rest a):wpQuiet P ops C Q (⟨some d,.load t X,ty,pos,af,none⟩::rest) a:=by
 refine GH l hd (λw B=>?_) k;obtain⟨F,c,i⟩:=s.get v;have D:(Bx b T cs).holds S F w.heap:=⟨c.1,(q w B b (i b ((c.1 b).2 rfl)).1).trans c.2⟩
 have g:=Ag1 y;have:=Nx (P:=P) (w:=w) (S:=λ_=>True) (p:= .pointer (some ⟨b,o,none⟩)) (cs:=vs) (sz:=sz) (ag:=ag) (t:=t) ⟨⟨b,o,none⟩,rfl,rfl,trivial,λj G=>by
  rw[Bx.cell D,<-x,Aif Ω,Ai0]⟩ g z (λe=>by subst e;simpa using A)
 simp[execOp,l.eval u,this]
end
end Go.Proofs.YtabonambpbofgaaGreat
