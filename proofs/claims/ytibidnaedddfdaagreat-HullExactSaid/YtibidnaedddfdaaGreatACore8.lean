import Derived.Test.YtibidnaedddfdaaGreatACore7
import Derived.StillTail
namespace Go.Proofs.YtibidnaedddfdaaGreat
open Go.RowKit
def qz (o:Oper):Oper:={ o with dst:=none,op:= .move (.const undef),guard:=none}
def KB (ops:Array Oper):Bool:=(List.range ops.size).all λi=>((ops[i]?).map λo=>o.after.all λe=> !Region.binds .any e||decide (e.on<i)).getD true
def TA (ops:Array Oper) (n:Nat):Bool:=(List.range ops.size).all λi=>((ops[i]?).map λo=>match o.guard with|some (j,_)=> !Nat.beq j n|none=>true).getD true
def Qp (ops:Array Oper) (n:Nat):Bool:=
 match ops[n]? with
 |some on=>Nat.beq (n+1) ops.size&&Region.sinkB .any ops n&&Region.chainB .any ops n&&KB ops&&TA ops n&&Region.lexB .any (ops.setIfInBounds n (qz on))
 |none=>false
section
variable {P:Program}{ops:Array Oper}{C:World→Prop}{n:Nat}{on:Oper}
theorem Oi (hn:ops[n]? =some on) (i:Nat):(ops.setIfInBounds n (qz on))[i]? =if i=n then some (qz on) else ops[i]? :=by
 have hlt:n<ops.size:=(Array.getElem?_eq_some_iff.1 hn).1
 rw[Array.getElem?_setIfInBounds]
 by_cases h:n=i
 ·subst h;simp [hlt]
 ·rw[if_neg h,if_neg (λe=>h e.symm)]
theorem NX (hn:ops[n]? =some on) (listed:Array Bool):Region.ready .any (ops.setIfInBounds n (qz on)) listed=Region.ready .any ops listed:=by
 unfold Region.ready
 simp only[Array.size_setIfInBounds]
 congr 1
 funext i
 rw[Oi hn]
 by_cases h:i=n
 ·subst h;simp [hn,qz]
 ·rw[if_neg h]
theorem NW (hn:ops[n]? =some on) {j:Nat}(h:j≠n) (tmps:Array Value):yielded (ops.setIfInBounds n (qz on)) tmps j=yielded ops tmps j:=by
 unfold yielded
 rw[Oi hn,if_neg h]
theorem Ji {p:Nat→Bool}:∀k,p k=false→∃i,i≤k∧p i=false∧∀j,j<i→p j=true:=by
 intro k
 induction k using Nat.strongRecOn with
 |_ k ih=>
  intro hk
  by_cases h:∃j,j<k∧p j=false
  ·obtain⟨j,hj,hp⟩:=h
   obtain⟨i,h1,h2,h3⟩:=ih j hj hp
   exact⟨i,by omega,h2,h3⟩
  ·refine⟨k,Nat.le_refl _,hk,λj hj=>?_⟩
   cases hp:p j with
   |true=>rfl
   |false=>exact absurd ⟨j,hj,hp⟩ h
theorem PX {Q':Exit→Act→World→Prop}(hn:ops[n]? =some on) (hsz:n+1=ops.size) (hs:Region.sinkB .any ops n=true) (hc:Region.chainB .any ops n=true) (hb:KB ops=true) (hg:TA ops n=true):
  ∀(fuel:Nat) (listed:Array Bool) (a:Act) (w:World),HeadInv .any ops n listed→C w→
   wpAnyQ P .any (ops.setIfInBounds n (qz on)) C (λa=>∀w,C w→wpList P ops Q' [on] a w) fuel listed a→wpAny P .any ops Q' fuel listed a w:=by
 have hnlt:n<ops.size:=by omega
 have hready:∀listed,HeadInv .any ops n listed→Region.ready .any ops listed≠[]:=by
  intro listed inv h0
  have hun:listed.getD n true=false:=inv.tail n (Nat.le_refl _) hnlt
  obtain⟨i,h1,h2,h3⟩:=Ji (p:=λi=>listed.getD i true) n hun
  have hilt:i<ops.size:=by omega
  have hi:i∈Region.ready .any ops listed:=by
   refine mem_ready.2 ⟨h2,ops[i],by simp [hilt],λe he hbi=>?_⟩
   have h4:=List.all_eq_true.1 hb i (List.mem_range.2 hilt)
   have h5:ops[i]? =some ops[i]:=by simp [hilt]
   rw[h5] at h4
   simp only[Option.map_some,Option.getD_some,Array.all_eq_true_iff_forall_mem] at h4
   have h6:=h4 e he
   simp only[hbi,Bool.not_true,Bool.false_or,decide_eq_true_eq] at h6
   have h7:=h3 e.on h6
   have h8:e.on<listed.size:=by rw[inv.size];omega
   simp only[Array.getD_eq_getD_getElem?,Array.getElem?_eq_getElem h8,Option.getD_some] at h7 ⊢
   exact h7
  rw[h0] at hi
  cases hi
 intro fuel
 induction fuel with
 |zero=>
  intro listed a w inv _ h
  have h1:=h.1
  rw[NX hn] at h1
  exact absurd h1 (hready listed inv)
 |succ fuel ih=>
  intro listed a w inv hw h
  refine⟨λh0=>absurd h0 (hready listed inv),λi hi=>?_⟩
  have hi':i∈Region.ready .any (ops.setIfInBounds n (qz on)) listed:=by rw[NX hn];exact hi
  have h1:=h.2 i hi'
  obtain⟨hun,oi,hoi,_⟩:=mem_ready.1 hi
  have hilt:i<ops.size:=(Array.getElem?_eq_some_iff.1 hoi).1
  by_cases hin:i=n
  ·subst hin
   have hon:oi=on:=Option.some.inj (hoi.symm.trans hn)
   subst hon
   have hall:∀j,j<i→listed.getD j true=true:=by
    intro j hj
    cases hl:listed.getD j true with
    |true=>rfl
    |false=>exact absurd hi (tail_waits hs hc hnlt inv _ j rfl hj hl i (Nat.le_refl _))
   have hempty:Region.ready .any ops (listed.setIfInBounds i true)=[]:=by
    apply List.eq_nil_iff_forall_not_mem.2
    intro j hj
    obtain⟨hj1,oj,hoj,_⟩:=mem_ready.1 hj
    have hjlt:j<ops.size:=(Array.getElem?_eq_some_iff.1 hoj).1
    have hs':i<listed.size:=by rw[inv.size];omega
    have hjs:j<listed.size:=by rw[inv.size];omega
    simp only[Array.getD_eq_getD_getElem?,Array.getElem?_setIfInBounds] at hj1
    by_cases e:i=j
    ·subst e;simp [hs'] at hj1
    ·rw[if_neg e] at hj1
     have:=hall j (by omega)
     simp only[Array.getD_eq_getD_getElem?] at this
     rw[this] at hj1
     cases hj1
   unfold qOp at h1
   rw[Oi hn,if_pos rfl] at h1
   simp only at h1
   rw[if_pos (by simp [Region.wanted,qz])] at h1
   obtain⟨v,_,h2⟩:=h1
   have hk:∀w,C w→wpList P ops Q' [oi] a w:=by
    cases fuel with
    |zero=>exact h2.2
    |succ f=>exact h2.1 (by rw[NX hn];exact hempty)
   have h3:=hk w hw
   unfold wpOp
   simp only[hn]
   unfold wpList at h3
   have hQ:∀a' w',wpList P ops Q' [] a' w'→wpAny P .any ops Q' fuel (listed.setIfInBounds i true) a' w':=by
    intro a' w' hq
    cases fuel with
    |zero=>exact⟨hempty,hq⟩
    |succ f=>exact⟨λ_=>hq,λj hj=>by rw[hempty] at hj;cases hj⟩
   split
   ·rename_i hw'
    rw[if_pos hw'] at h3
    exact h3.imp (Oper.wp_mono hQ) id
   ·rename_i hw'
    rw[if_neg hw'] at h3
    exact hQ _ _ h3
  ·have hin':i<n:=by omega
   have h4:=wpOp_of_qOp (Q':=Q') hw (K':=wpAny P .any ops Q' fuel (listed.setIfInBounds i true)) (λa' w' hw' h'=>ih _ a' w' (inv.set hi hin') hw' h') h1
   unfold wpOp at h4 ⊢
   rw[Oi hn,if_neg hin] at h4
   simp only[hoi] at h4 ⊢
   have hwant:Region.wanted oi (yielded (ops.setIfInBounds n (qz on)) a.tmps)=Region.wanted oi (yielded ops a.tmps):=by
    have h5:=List.all_eq_true.1 hg i (List.mem_range.2 hilt)
    rw[hoi] at h5
    simp only[Option.map_some,Option.getD_some] at h5
    unfold Region.wanted
    cases hgd:oi.guard with
    |none=>rfl
    |some g=>
     obtain⟨j,b⟩:=g
     rw[hgd] at h5
     simp only[Bool.not_eq_true'] at h5
     have hj:j≠n:=λe=>by subst e;simp at h5
     simp only[NW hn hj]
   rw[hwant] at h4
   exact h4
theorem KZ {ops':Array Oper}{Q:Act→Prop}(hy:∀(j:Nat) (tmps:Array Value),j<n→yielded ops' tmps j=yielded ops tmps j):
  ∀(l:List Oper) (a:Act),(∀o∈l,∀j b,o.guard=some (j,b)→j<n)→wpQuiet P ops C Q l a→wpQuiet P ops' C Q l a
 |[],_,_,h=>h
 |o::l,a,hl,h=>by
  have hw:Region.wanted o (yielded ops' a.tmps)=Region.wanted o (yielded ops a.tmps):=by
   unfold Region.wanted
   cases hgd:o.guard with
   |none=>rfl
   |some g=>obtain⟨j,b⟩:=g;simp only;rw[hy j _ (hl o (by simp) j b hgd)]
  unfold wpQuiet at h ⊢
  rw[hw]
  split
  ·rename_i hh
   rw[if_pos hh] at h
   obtain⟨v,h1,h2⟩:=h
   exact⟨v,h1,KZ hy l _ (λo ho=>hl o (by simp [ho])) h2⟩
  ·rename_i hh
   rw[if_neg hh] at h
   exact KZ hy l _ (λo ho=>hl o (by simp [ho])) h
def TB (l:List Oper) (n:Nat):Bool:=l.all λo=>match o.guard with|some (j,_)=>Nat.blt j n|none=>true
theorem KY {l:List Oper}{id:Nat}{Q':Exit→Act→World→Prop}{a:Act}{w:World}{rd:Option Nat}(hrd:RD rd (.region id l.toArray true)) (hQ:∀a w,¬Q' .outgrown a w) (n:Nat) (hm:P.follows .mixedOrders=true) (hB:Qp l.toArray n=true) (hgl:TB (l.take n) n=true) (hC:C { w with drawn:=w.drawn+1})
  (h:wpQuiet P l.toArray C (λa=>∀w,C w→wpList P l.toArray Q' (l.drop n) a w) (l.take n) a):(Code.region id l.toArray true).wpIn (FF rd) 0 P Q' a w:=by
 unfold Qp at hB
 split at hB
 ·rename_i on hn
  simp only[Bool.and_eq_true] at hB
  obtain⟨⟨⟨⟨⟨h1,h2⟩,h3⟩,h4⟩,h5⟩,h6⟩:=hB
  have hsz:=Nat.eq_of_beq_eq_true h1
  have hlen:n+1=l.length:=by simpa using hsz
  have hdrop:l.drop n=[on]:=by
   have hn':l[n]? =some on:=by simpa using hn
   have hlt:n<l.length:=by omega
   rw[List.drop_eq_getElem_cons hlt,List.drop_eq_nil_of_le (by omega)]
   have:=List.getElem?_eq_getElem hlt
   rw[hn'] at this
   rw[←Option.some.inj this]
  rw[hdrop] at h
  have hl':(l.toArray.setIfInBounds n (qz on)).toList=l.take n++[qz on]:=by
   have hlt:n<l.length:=by omega
   rw[List.setIfInBounds_toArray,List.set_eq_take_append_cons_drop,if_pos hlt,List.drop_eq_nil_of_le (by omega)]
  have hq:wpQuiet P (l.toArray.setIfInBounds n (qz on)) C (λa=>∀w,C w→wpList P l.toArray Q' [on] a w) (l.take n++[qz on]) a:=by
   refine Qt n (λa=>∀w,C w→wpList P l.toArray Q' [on] a w) ?_ λa' ha=>?_
   ·have e:(l.take n++[qz on]).take n=l.take n:=by
     have:(l.take n).length=n:=by simp;omega
     rw[List.take_append_of_le_length (by omega),List.take_take,Nat.min_self]
    rw[e]
    refine KZ (n:=n) (λj tmps hj=>NW hn (by omega) tmps) _ _ (λo ho j b hob=>?_) h
    have:=List.all_eq_true.1 hgl o ho
    rw[hob] at this
    have h8:j+1≤n:=by simpa [Nat.blt] using this
    omega
   ·have e:(l.take n++[qz on]).drop n=[qz on]:=by
     have:(l.take n).length=n:=by simp;omega
     rw[List.drop_append_of_le_length (by omega),List.drop_eq_nil_of_le (by omega),List.nil_append]
    rw[e]
    unfold wpQuiet
    rw[if_pos (by simp [Region.wanted,qz])]
    exact⟨undef,λw _=>by unfold Oper.quietAt;simp [execOp,qz,Act.eval,Oper.quietUpon],ha⟩
  simp only[Region.lexB,Bool.and_eq_true] at h6
  refine Mg hrd hQ hm ?_
  have hsz':(l.toArray.setIfInBounds n (qz on)).size=l.toArray.size:=by simp
  have hlen2:(l.take n++[qz on]).length=l.toArray.size:=by rw[←hl',Array.length_toList,hsz']
  have inv0:HeadInv .any l.toArray n (Array.replicate l.toArray.size false):=
   ⟨by simp,λj oj _ hl=>(by rw[getD_replicate_false] at hl;cases hl),λt _ ht=>getD_in (by simpa using ht) (getD_replicate_false _ _)⟩
  have hlex:=wpAnyQ_lex (P:=P) (C:=C) (md:= .any) h6.1 (l.take n++[qz on]) 0 (Array.replicate l.toArray.size false) a (λj=>by rw[←hl'];simp) (by rw[hlen2,←hsz'];exact h6.2) hq
  rw[hlen2] at hlex
  exact PX hn hsz h2 h3 h4 h5 _ _ _ _ inv0 hC hlex
 ·cases hB
end
section
variable {P:Program}{ex:List (Nat×AP)}{R N:AP}{cs:List Code}{B:World}{h:Ad}{n:FN}{m:SM}{S:Nat→Prop}{L:List HP}
theorem N0 {l:List Oper}{id:Nat}(j:Nat) (hm:P.follows .mixedOrders=true) (hB:Qp l.toArray j=true) (hgl:TB (l.take j) j=true)
  (k:QF P l.toArray (Wd B h) (λa=>∀w,Wd B h w→wpList P l.toArray (Qx ex R (W P ex R cs N)) (l.drop j) a w) (l.take j) n m):WF P ex R (.region id l.toArray true::cs) N B h n m:=
 λa _ hf hw _ hd=>KY hd Jh j hm hB hgl hw.drew (k a hf)
theorem EC {l:List Oper}{id:Nat}(j:Nat) (hm:P.follows .mixedOrders=true) (hB:Qp l.toArray j=true) (hgl:TB (l.take j) j=true) (hs:St S L h)
  (k:QF P l.toArray (Cl B h) (λa=>∀w h',Wd B h' w→St S L h'→BO S h S h'→wpList P l.toArray (Qx ex R (W P ex R cs N)) (l.drop j) a w) (l.take j) n m):WF P ex R (.region id l.toArray true::cs) N B h n m:=by
 intro a w hf hw rd hd
 refine KY hd Jh (C:=Cl B h) j hm hB hgl ⟨h,hw.drew,Ap.refl h⟩ ?_
 refine Qt j (λa=>∀w h',Wd B h' w→St S L h'→BO S h S h'→wpList P l.toArray (Qx ex R (W P ex R cs N)) (l.drop j) a w) (by rw[List.take_take,Nat.min_self];exact k a hf) λa' ha=>?_
 have e:(l.take j).drop j=[]:=by rw[List.drop_eq_nil_of_le];simp;omega
 rw[e]
 exact λw' ⟨h',k1,k2⟩=>ha w' h' k1 (k2.st hs) (k2.ext hs.1)
theorem C1 {ops:Array Oper}{C}{Q:Exit→Act→World→Prop}{l:List Oper}(k:∀h',St S L h'→BO S h S h'→LF P ops Q l B h' n m):QF P ops C (λa=>∀w h',Wd B h' w→St S L h'→BO S h S h'→wpList P ops Q l a w) [] n m:=
 λa hf w h' hw s e=>k h' s e a w hf hw
end
end Go.Proofs.YtibidnaedddfdaaGreat
