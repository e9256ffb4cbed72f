import Derived.Test.YtibidnaedddfdaaGreatCCore4
namespace Go.Proofs.YtibidnaedddfdaaGreat
set_option linter.unusedSimpArgs false
set_option linter.unusedVariables false
open Go.RowKit
def H1 {α}(S:Nat→Prop) (h:AX) (r:AV α):List Value→List α→Prop
 |cs,[]=>cs=[]
 |cs,x::l=>∃c1 c2,cs=c1++c2∧r.rd S h c1 x∧H1 S h r c2 l
theorem H1.mono {α S S' h h'}{r:AV α}:∀{l:List α}{cs},H1 S h r cs l→(∀b,S b→S' b)→(∀b,S b→h'[b]? =h[b]?)→H1 S' h' r cs l
 |[],_,k,_,_=>k
 |_::_,_,⟨c1,c2,e,k1,k2⟩,s,q=>⟨c1,c2,e,r.mono k1 s q,k2.mono s q⟩
theorem H1.len {α S h}{r:AV α}:∀{l:List α}{cs},H1 S h r cs l→cs.length=l.length*r.sz
 |[],_,k=>by have k:_=[]:=k;subst k;simp
 |_::l,_,⟨c1,c2,e,k1,k2⟩=>by subst e;rw[List.length_append,r.len k1,k2.len,List.length_cons,Nat.succ_mul];omega
theorem H1.one {α S h}{r:AV α}:∀{l:List α}{cs},H1 S h r cs l→∀v∈cs,v.oneCell'=true
 |[],_,k,v,hv=>by have k:_=[]:=k;subst k;cases hv
 |_::_,_,⟨c1,c2,e,k1,k2⟩,v,hv=>by subst e;exact(List.mem_append.1 hv).elim (r.one k1 v) (k2.one v)
theorem H1.append {α S h}{r:AV α}:∀{l l2:List α}{cs cs2},H1 S h r cs l→H1 S h r cs2 l2→H1 S h r (cs++cs2) (l++l2)
 |[],_,_,_,k,k2=>by have k:_=[]:=k;subst k;exact k2
 |_::_,_,_,_,⟨c1,c2,e,k1,k2⟩,kk=>by subst e;exact⟨c1,c2++_,by simp,k1,k2.append kk⟩
theorem H1.at_ {α S h}{r:AV α}:∀{l:List α}{cs}{i:Nat}{x},H1 S h r cs l→l[i]? =some x→r.rd S h ((cs.drop (i*r.sz)).take r.sz) x
 |[],_,_,_,_,hi=>by simp at hi
 |y::l,_,0,x,⟨c1,c2,e,k1,k2⟩,hi=>by
  subst e
  simp only[List.getElem?_cons_zero,Option.some.injEq] at hi
  subst hi
  have:=r.len k1
  simp only[Nat.zero_mul,List.drop_zero,←this,List.take_left]
  exact k1
 |y::l,_,i+1,x,⟨c1,c2,e,k1,k2⟩,hi=>by
  subst e
  simp only[List.getElem?_cons_succ] at hi
  have h1:=r.len k1
  have h2:(i+1)*r.sz=c1.length+i*r.sz:=by rw[h1,Nat.succ_mul];omega
  rw[h2,List.drop_append_of_le_length_add]
  exact k2.at_ hi
 where
 List.drop_append_of_le_length_add:∀{c1 c2:List Value} {k:Nat},(c1++c2).drop (c1.length+k)=c2.drop k:=by
  intro c1 c2 k;rw[←List.drop_drop,List.drop_left]
theorem Pn (cs:List Value) (o:Nat) (vs:List Value) (h:o+vs.length≤cs.length):(EX cs o vs).length=cs.length:=by
 simp [EX];omega
theorem H1.set {α S h}{r:AV α}:∀{l:List α}{cs}{i o:Nat}{x y}{vs:List Value},H1 S h r cs l→l[i]? =some x→o+vs.length≤r.sz→(∀c,r.rd S h c x→r.rd S h (EX c o vs) y)→H1 S h r (EX cs (i*r.sz+o) vs) (l.set i y)
 |[],_,_,_,_,_,_,_,hi,_,_=>by simp at hi
 |z::l,_,0,o,x,y,vs,⟨c1,c2,e,k1,k2⟩,hi,ho,hu=>by
  subst e
  simp only[List.getElem?_cons_zero,Option.some.injEq] at hi
  subst hi
  have h1:=r.len k1
  refine⟨EX c1 o vs,c2,?_,hu _ k1,k2⟩
  simp only[EX,Nat.zero_mul,Nat.zero_add]
  rw[List.take_append_of_le_length (by omega),List.drop_append_of_le_length (by omega)]
  simp
 |z::l,_,i+1,o,x,y,vs,⟨c1,c2,e,k1,k2⟩,hi,ho,hu=>by
  subst e
  simp only[List.getElem?_cons_succ] at hi
  have h1:=r.len k1
  refine⟨c1,EX c2 (i*r.sz+o) vs,?_,k1,k2.set hi ho hu⟩
  have h2:(i+1)*r.sz+o=c1.length+(i*r.sz+o):=by rw[h1,Nat.succ_mul];omega
  simp only[EX]
  rw[h2,Nat.add_assoc c1.length,←List.drop_drop,List.drop_left,List.take_length_add_append]
  simp
def OS {α}(r:AV α) (T:TypeId) (v:Value) (l:List α):HP where
 holds:=λS F h=>(v= .slice none 0 0∧l=[]∧∀b,¬F b)∨
  ∃g cap cur,v= .slice (some ⟨g,0,none⟩) l.length cap∧(∀b,F b↔b=g)∧h[g]? =some (.cells cur T (0,0))∧l.length≤cap∧cap≤maxLen∧cur.size=cap*r.sz∧H1 S h r (cur.toList.take (l.length*r.sz)) l
 loc:=λk s e=>by
  rcases k with k|⟨g,cap,cur,k1,k2,k3,k4,k5,k6,k7⟩
  ·exact .inl k
  ·exact .inr ⟨g,cap,cur,k1,k2,(e g (.inr ((k2 g).2 rfl))).trans k3,k4,k5,k6,k7.mono s λb hb=>e b (.inl hb)⟩
section
variable {α:Type}{r:AV α}{T:TypeId}{v:Value}{l:List α}{S F:Nat→Prop}{h:AX}{L L2:List HP}
theorem OS.len (k:(OS r T v l).holds S F h):∃ad cap,v= .slice ad l.length cap∧l.length≤maxLen:=by
 rcases k with ⟨h1,h2,_⟩|⟨g,cap,cur,h1,h2,h3,h4,h5,_⟩
 ·subst h2;exact⟨none,0,h1,Nat.zero_le _⟩
 ·exact⟨_,cap,h1,Nat.le_trans h4 h5⟩
theorem St.oslen (hs:St S L h) (hm:OS r T v l∈L):∃ad cap,v= .slice ad l.length cap∧l.length≤maxLen:=by
 obtain⟨F,k,_⟩:=hs.get hm;exact OS.len k
theorem St.nil (hs:St S L h) (r:AV α) (T:TypeId):St S (OS r T (.slice none 0 0) ([]:List α)::L) h:=
 (hs.add (Nat.le_refl _) (λ_ _=>rfl) ⟨λ_=>False,Or.inl ⟨rfl,rfl,λ_ x=>x⟩,λ_ x=>x.elim⟩).1
theorem OS.sl (k:(OS r T v l).holds S F h) (s:∀b,F b→S b):Sl S h r v l:=by
 rcases k with ⟨h1,h2,_⟩|⟨g,cap,cur,h1,h2,h3,h4,h5,h6,h7⟩
 ·exact .inl ⟨h1,h2⟩
 ·refine .inr ⟨⟨g,0,none⟩,cap,h1,h4,h5,λi x hi=>⟨rfl,?_⟩⟩
  have hrd:=h7.at_ hi
  have hlt:i<l.length:=(List.getElem?_eq_some_iff.1 hi).1
  have hle:i*r.sz+r.sz≤l.length*r.sz:=by rw[←Nat.succ_mul];exact Nat.mul_le_mul_right _ hlt
  refine⟨_,⟨⟨g,0+i*r.sz,none⟩,rfl,rfl,s g ((h2 g).2 rfl),λj hj=>?_⟩,hrd⟩
  have hj':j<r.sz:=by simp only[List.length_take,List.length_drop] at hj;omega
  simp only[FO,h3,Nat.zero_add,Option.isSome_none,Bool.false_eq_true,if_false]
  rw[List.getElem?_take_of_lt hj',List.getElem?_drop,List.getElem?_take_of_lt (by omega),Array.getElem?_toList]
theorem St.pubs (hs:St S L h) (p:L7 L (OS r T v l) L2):∃S',St S' L2 h∧Bc S h S' h∧Sl S' h r v l:=by
 obtain⟨F,h1,h2,h3,h4⟩:=hs.pub p
 exact⟨_,h3,h4,OS.sl (HP.loc _ h1 h4.sub λ_ _=>rfl) λb hb=> .inr hb⟩
theorem St.oslAll (hs:St S L h) (hm:OS r T v l∈L):Sl (λb=>b<h.size) h r v l:=by
 obtain⟨F,h1,h2⟩:=hs.get hm
 exact OS.sl (HP.loc _ h1 (λb hb=>hs.1 b hb) λ_ _=>rfl) λb hb=>(h2 b hb).1
theorem St.osAt (hs:St S L h) (hm:OS r T v l∈L) {i:Nat}{x:α}(hi:l[i]? =some x):
  ∃(g cap:Nat),v= .slice (some ⟨g,0,none⟩) l.length cap∧K1 (λb=>b<h.size) S h r (.pointer (some ⟨g,i*r.sz,none⟩)) x:=by
 obtain⟨F,k,h2⟩:=hs.get hm
 rcases k with ⟨k1,k2,_⟩|⟨g,cap,cur,k1,k2,k3,k4,k5,k6,k7⟩
 ·subst k2;simp at hi
 ·have hrd:=k7.at_ hi
  have hlt:i<l.length:=(List.getElem?_eq_some_iff.1 hi).1
  have hle:i*r.sz+r.sz≤l.length*r.sz:=by rw[←Nat.succ_mul];exact Nat.mul_le_mul_right _ hlt
  refine⟨g,cap,k1,_,⟨⟨g,i*r.sz,none⟩,rfl,rfl,(h2 g ((k2 g).2 rfl)).1,λj hj=>?_⟩,hrd⟩
  have hj':j<r.sz:=by simp only[List.length_take,List.length_drop] at hj;omega
  simp only[FO,k3,Option.isSome_none,Bool.false_eq_true,if_false]
  rw[List.getElem?_take_of_lt hj',List.getElem?_drop,List.getElem?_take_of_lt (by omega),Array.getElem?_toList]
end
def EP (v:Value) (k:Nat) (q:Value):Prop:=∃g n c,v= .slice (some ⟨g,0,none⟩) n c∧q= .pointer (some ⟨g,k,none⟩)
def LR (P:Program) (t:TypeId):Option (TypeId×Nat×Nat×List Value):=
 match P.underlying t with
 |some (.slice e)=>match P.info? e with
  |some i=>match i.zero with
   |some z=>if i.size=0|| !(z.cells.size==i.size) then none else some (e,i.size,i.bytes,z.cells.toList)
   |none=>none
  |none=>none
 |_=>none
theorem Ht {P t e sz by_ z}(h:LR P t=some (e,sz,by_,z)):∃i zv,P.underlying t=some (.slice e)∧P.info? e=some i∧i.zero=some zv∧i.size=sz∧i.bytes=by_∧zv.cells=z.toArray∧z.length=sz∧0<sz:=by
 unfold LR at h
 split at h
 ·rename_i e' hu
  split at h
  ·rename_i i hi
   split at h
   ·rename_i zv hz
    split at h
    ·cases h
    ·rename_i hc
     simp only[Option.some.injEq,Prod.mk.injEq] at h
     obtain⟨rfl,rfl,rfl,rfl⟩:=h
     simp only[Bool.or_eq_true,decide_eq_true_eq,not_or,Bool.not_eq_true,Bool.not_eq_false',beq_iff_eq] at hc
     exact⟨i,zv,hu,hi,hz,rfl,rfl,by simp,by simpa using hc.2,by omega⟩
   ·cases h
  ·cases h
 ·cases h
section
variable {P:Program}{ops:Array Oper}{Q:Exit→Act→World→Prop}{n:FN}{a:Act}{m:List (Nat×Value)}{rest:List Oper}
variable {d:Nat}{ty:TypeId}{pos:String}{af:Array Edge}{X Y:Operand}{B w:World}{h:AX}{S:Nat→Prop}{L L2:List HP}
theorem Mg {α}{r:AV α}{S h}{z:List Value}{x:α}(hz:r.rd S h z x) (c:Nat):H1 S h r (List.replicate c z).flatten (List.replicate c x):=by
 induction c with
 |zero=>rfl
 |succ c ih=>exact⟨z,_,by simp [List.replicate_succ],hz,ih⟩
theorem IN (z:List Value) (c:Nat) (hz:0<z.length):(madeCells z.toArray (c*z.length)).toList=(List.replicate c z).flatten:=by
 induction c with
 |zero=>simp [madeCells]
 |succ c ih=>
  have h1:List.replicate (c+1) z=List.replicate c z++[z]:=by rw[List.replicate_succ']
  rw[h1,List.flatten_append,←ih]
  apply List.ext_getElem?
  intro i
  have hlen:(madeCells z.toArray (c*z.length)).toList.length=c*z.length:=by simp [size_madeCells]
  rw[List.getElem?_append]
  simp only[madeCells,Array.toList_map,Array.toList_range,List.length_map,List.length_range]
  have hm:(c+1)*z.length=c*z.length+z.length:=Nat.succ_mul _ _
  by_cases hi:i<c*z.length
  ·rw[if_pos hi]
   simp [List.getElem?_range hi,List.getElem?_range (show i<(c+1)*z.length by omega)]
  ·rw[if_neg hi]
   by_cases hi2:i<(c+1)*z.length
   ·have e:i%z.length=i-c*z.length:=by
     have:i=(i-c*z.length)+z.length*c:=by rw[Nat.mul_comm z.length c];omega
     rw[this,Nat.add_mul_mod_self_left,Nat.mod_eq_of_lt (by omega),Nat.mul_comm];omega
    have hlt:i-c*z.length<z.length:=by omega
    simp [List.getElem?_range hi2,e,hlt]
   ·rw[List.getElem?_eq_none (by simp;omega),List.getElem?_eq_none (by simp;omega)]
theorem aG {α}{r:AV α}{T e sz by_:Nat}{z:List Value}{zx:α}{len cap:Nat}{kl kc:IntKind}{U V:Operand}(hf:Fr n a m) (he:LR P T=some (e,sz,by_,z)) (hrs:r.sz=sz) (hz:r.rd S h z zx)
  (hx:BP m U=some (.int kl (len:Nat))) (hy:BP m V=some (.int kc (cap:Nat))) (hlc:len≤cap) (hby:by_*cap≤281474976710656) (hmx:cap≤maxLen) (hd:Nat.blt d n.1=true) (hw:Wd B h w) (hs:St S L h)
  (k:∀v a w h',Fr n a ((d,v)::m)→Wd B h' w→St S (OS r e v (List.replicate len zx)::L) h'→Bc S h S h'→wpList P ops Q rest a w):
  wpList P ops Q (⟨some d,.makeSlice T U V,ty,pos,af,none⟩::rest) a w:=by
 refine wpList_plain rfl λK hK=>?_
 unfold Oper.wp
 obtain⟨i,zv,h1,h2,h3,h4,h5,h6,h7,h8⟩:=Ht he
 have hmk:=run_make (P:=P) w T e i zv h1 h2 h3 kl kc (len:Int) (cap:Int) (by omega) (by omega) (by rw[h5];omega) (by unfold maxLen at hmx;omega)
 simp only[Int.toNat_natCast,h6,h4] at hmk
 have hrun:(execOp a.eval ⟨some d,.makeSlice T U V,ty,pos,af,none⟩).run P w= .ok (.value (.slice (some ⟨w.heap.size,0,none⟩) len cap)) (w.alloc (.cells (madeCells z.toArray (cap*sz)) e)):=by
  simp [execOp,hf.eval hx,hf.eval hy,hmk]
 rw[hrun]
 have hcells:(madeCells z.toArray (cap*sz)).toList=(List.replicate cap z).flatten:=by rw[←h7];exact IN z cap (by omega)
 have hne:(OS r e (.slice (some ⟨h.size,0,none⟩) len cap) (List.replicate len zx)).holds S (λb=>b=h.size) (h.push (.cells (madeCells z.toArray (cap*sz)) e)):=by
  refine .inr ⟨h.size,cap,madeCells z.toArray (cap*sz),by simp,λ_=>Iff.rfl,HE _ _,by simpa using hlc,hmx,by rw[size_madeCells,hrs],?_⟩
  rw[hcells]
  have:((List.replicate cap z).flatten).take ((List.replicate len zx).length*r.sz)=(List.replicate len z).flatten:=by
   obtain⟨j,rfl⟩:=Nat.exists_eq_add_of_le hlc
   rw[←List.replicate_append_replicate,List.flatten_append,List.length_replicate,hrs,←h7]
   have:(List.replicate len z).flatten.length=len*z.length:=by simp
   rw[←this,List.take_left]
  rw[this]
  exact(Mg hz len).mono (λ_ x=>x) λb hb=>ES _ _ _ (hs.1 b hb)
 obtain⟨g1,g2⟩:=hs.add (h':=h.push (.cells (madeCells z.toArray (cap*sz)) e)) (by simp) (λb hb=>ES _ _ _ hb) ⟨_,hne,λb hb=>by subst hb;simp⟩
 have hsz:=hw.heap
 exact hK _ _ (k _ _ _ _ (hf.put hd _) (hw.alloc _) (by rw[hsz];exact g1) g2)
theorem Oo {α}{r:AV α}{T ty e sz by_:Nat}{z:List Value}{v s:Value}{l xs:List α}{sd:Addr}{sc:Nat}{news:List Value}{F:Nat→Prop}(he:LR P T=some (e,sz,by_,z)) (hrs:r.sz=sz)
  (hsv:s= .slice (some sd) xs.length sc) (hn:H1 S h r news xs) (hc:∀j u,news[j]? =some u→FO h (sd.add j)=some u)
  (hmx:l.length+xs.length≤maxLen) (hby:(l.length+xs.length)*by_≤140737488355328) (hw:Wd B h w) (k:(OS r e v l).holds S F h) (hS:∀b,S b→b<h.size∧¬F b):
  ∃v' w' h' F',(Builtin.append_ #[T,T] ty #[v,s]).run P w= .ok v' w'∧Wd B h' w'∧h.size≤h'.size∧(OS r e v' (l++xs)).holds S F' h'∧(∀b,F' b→F b∨(h.size≤b∧b<h'.size))∧∀b,b<h.size→¬F b→h'[b]? =h[b]? :=by
 obtain⟨i,zv,h1,h2,h3,h4,h5,h6,h7,h8⟩:=Ht he
 subst hsv
 have hnl:=hn.len
 rw[hrs,←h4] at hnl
 have hmx':l.length+xs.length≤9223372036854775807:=by unfold maxLen at hmx;omega
 have hcw:∀j u,news[j]? =some u→w.cell? (sd.add j)=some u:=λj u hu=>by rw[G8,hw.heap];exact hc j u hu
 have hzs:zv.cells.size=sz:=by rw[h6];simpa using h7
 have grown:∀(olds:List Value) (old:Nat),H1 S h r olds l→old<l.length+xs.length→
   (OS r e (.slice (some ⟨h.size,0,none⟩) (l.length+xs.length) (grownCap w (l.length+xs.length) old e)) (l++xs)).holds S (λb=>b=h.size)
    (h.push (.cells (olds.toArray++news.toArray++Builtin.zeroCells zv.cells (grownCap w (l.length+xs.length) old e-(l.length+xs.length))) e)):=by
  intro olds old ho hlt
  have hge:=grownCap_ge w (l.length+xs.length) old e
  refine .inr ⟨h.size,_,_,by rw[List.length_append],λ_=>Iff.rfl,HE _ _,by rw[List.length_append];exact hge,grownCap_le_maxLen w _ old e hmx,?_,?_⟩
  ·have:=ho.len
   simp only[Array.size_append,List.size_toArray,size_zeroCells,hzs,this,hnl,h4,hrs,←Nat.add_mul]
   congr 1
   omega
  ·have hlen:(l++xs).length*r.sz=(olds++news).length:=by rw[List.length_append,List.length_append,ho.len,hn.len,Nat.add_mul]
   rw[hlen]
   simp only[Array.toList_append]
   rw[List.take_left]
   exact(ho.append hn).mono (λ_ x=>x) λb hb=>ES _ _ _ (hS b hb).1
 rcases k with ⟨rfl,rfl,hF⟩|⟨g,cap,cur,rfl,hF,hg,hlc,hcm,hcs,hrd⟩
 ·by_cases hx:xs.length=0
  ·have hxs:xs=[]:=List.eq_nil_of_length_eq_zero hx
   subst hxs
   refine⟨.slice none 0 0,w,h,F,?_,hw,Nat.le_refl _,.inl ⟨rfl,rfl,hF⟩,λb hb=> .inl hb,λ_ _ _=>rfl⟩
   simp [Builtin.append_,run_underlying h1,sizeOf,typeInfo,h2,Builtin.lenOf,Builtin.firstCells,loadCells,loadCellsFrom]
  ·have hby':xs.length*by_≤140737488355328:=by simpa using hby
   have hr:=run_append_nil (P:=P) w T ty e i zv h1 h2 h3 sd xs.length sc news hnl hcw (by omega) (by simp at hmx';omega) (by rw[h5];omega)
   have hgr:=grown [] 0 rfl (by simp;omega)
   simp only[List.length_nil,Nat.zero_add,List.nil_append,Array.empty_append] at hgr
   refine⟨_,_,h.push (.cells (news.toArray++Builtin.zeroCells zv.cells (grownCap w xs.length 0 e-xs.length)) e),λb=>b=h.size,hr,⟨?_,hw.os,hw.tape,hw.out⟩,by simp,?_,λb hb=> .inr (by subst hb;simp),λb hb _=>ES _ _ _ hb⟩
   ·show(w.heap.push _)=_;rw[hw.heap]
   ·rw[hw.heap];exact hgr
 ·have hgw:w.heap[g]? =some (.cells cur e (0,0)):=by rw[hw.heap];exact hg
  by_cases hroom:l.length+xs.length≤cap
  ·have hfit:l.length*i.size+news.length≤cur.size:=by rw[hnl,hcs,h4,hrs,←Nat.add_mul];exact Nat.mul_le_mul_right _ hroom
   have hr:=run_append_room (P:=P) w T ty e i h1 h2 g l.length cap cur hgw sd xs.length sc news hnl hcw (λu hu=>hn.one u hu) hroom hfit
   obtain⟨h',e1,e2,e3,e4⟩:=Lc w g cur (c':=(cur.toList.take (l.length*i.size)++news++cur.toList.drop (l.length*i.size+news.length)).toArray) e hgw
   rw[hw.heap] at e2 e4
   refine⟨_,_,h',F,hr,⟨e1,hw.os,hw.tape,hw.out⟩,by omega,.inr ⟨g,cap,_,by rw[List.length_append],hF,e3,by rw[List.length_append];exact hroom,hcm,?_,?_⟩,λb hb=> .inl hb,λb _ hb=>e4 b λe=>hb ((hF b).2 e)⟩
   ·simp only[List.size_toArray,List.length_append,List.length_take,List.length_drop,Array.length_toList]
    omega
   ·have hol:=hrd.len
    rw[hrs,←h4] at hol
    have hlen:(l++xs).length*r.sz=(cur.toList.take (l.length*i.size)++news).length:=by
     rw[List.length_append,List.length_append,hol,hnl,Nat.add_mul,hrs,h4]
    rw[hlen,List.take_left,h4,←hrs]
    exact(hrd.append hn).mono (λ_ x=>x) λb hb=>e4 b λe=>(hS b hb).2 ((hF b).2 e)
  ·have holds:∀j u,(cur.toList.take (l.length*r.sz))[j]? =some u→w.cell? ((⟨g,0,none⟩:Addr).add j)=some u:=λj u hu=>by
    have hadd:(⟨g,0,none⟩:Addr).add j=⟨g,j,none⟩:=by unfold Addr.add;split<;>simp_all
    rw[hadd,G8,hw.heap]
    have hj:j<l.length*r.sz:=by
     have:=(List.getElem?_eq_some_iff.1 hu).1
     simp at this;omega
    rw[List.getElem?_take_of_lt hj] at hu
    simp only[FO,hg,Option.isSome_none,Bool.false_eq_true,if_false]
    simpa using hu
   have hol:=hrd.len
   rw[hrs,←h4] at hol
   rw[hrs,←h4] at holds
   have hr:=run_append_grow (P:=P) w T ty e i zv h1 h2 h3 ⟨g,0,none⟩ l.length cap _ hol holds sd xs.length sc news hnl hcw (by omega) (by omega) (growslice_fits (by omega) (by rw[h5];exact hby))
   have hgr:=grown _ cap hrd (by omega)
   rw[hrs,←h4] at hgr
   refine⟨_,_,h.push (.cells ((cur.toList.take (l.length*i.size)).toArray++news.toArray++Builtin.zeroCells zv.cells (grownCap w (l.length+xs.length) cap e-(l.length+xs.length))) e),λb=>b=h.size,hr,⟨?_,hw.os,hw.tape,hw.out⟩,by simp,?_,λb hb=> .inr (by subst hb;simp),λb hb _=>ES _ _ _ hb⟩
   ·show(w.heap.push _)=_;rw[hw.heap]
   ·rw[hw.heap];exact hgr
theorem Y8 {α}{r:AV α}{T e sz by_:Nat}{z:List Value}{v s:Value}{l xs:List α}{sd:Addr}{sc:Nat}{news:List Value}{LL:Value→List HP}(hf:Fr n a m) (hx:BP m X=some v) (hy:BP m Y=some s) (he:LR P T=some (e,sz,by_,z)) (hrs:r.sz=sz)
  (hsv:s= .slice (some sd) xs.length sc) (hn:H1 S h r news xs) (hc:∀j u,news[j]? =some u→FO h (sd.add j)=some u)
  (hmx:l.length+xs.length≤maxLen) (hby:(l.length+xs.length)*by_≤140737488355328) (hd:Nat.blt d n.1=true) (hw:Wd B h w) (hs:St S L h) (rp:∀v',IZ L (OS r e v l) (OS r e v' (l++xs)) (LL v'))
  (k:∀v' a w h',Fr n a ((d,v')::m)→Wd B h' w→St S (LL v') h'→Bc S h S h'→wpList P ops Q rest a w):
  wpList P ops Q (⟨some d,.call ⟨.builtin .append,#[X,Y],#[T,T]⟩,ty,pos,af,none⟩::rest) a w:=by
 refine wpList_plain rfl λK hK=>?_
 unfold Oper.wp
 obtain⟨M,p,_⟩:=(rp v).pick
 obtain⟨F,g1,g2,_⟩:=Sp.pick p hs.2
 obtain⟨v',w',h',F',e1,e2,e3,e4,e5,e6⟩:=Oo (ty:=ty) he hrs hsv hn hc hmx hby hw g1 λb hb=>⟨hs.1 b hb,λhf=>(g2 b hf).2 hb⟩
 have hrun:(execOp a.eval ⟨some d,.call ⟨.builtin .append,#[X,Y],#[T,T]⟩,ty,pos,af,none⟩).run P w= .ok (.value v') w':=by
  simp [execOp,resolve,invoke,builtin,hf.eval hx,hf.eval hy,e1]
 rw[hrun]
 obtain⟨M,p,q⟩:=(rp v').pick
 have hst:St S (LL v') h'∧Bc S h S h':=by
  obtain⟨G,g1',g2',g3'⟩:=Sp.pick p hs.2
  obtain⟨v'',w'',h'',F'',e1',e2',e3',e4',e5',e6'⟩:=Oo (ty:=ty) he hrs hsv hn hc hmx hby hw g1' λb hb=>⟨hs.1 b hb,λhf=>(g2' b hf).2 hb⟩
  rw[e1] at e1'
  injection e1' with ev ew
  subst ev;subst ew
  have hh:h''=h':=by rw[←e2'.heap,e2.heap]
  subst hh
  have hSS:∀b,S b→h''[b]? =h[b]? :=λb hb=>e6' b (hs.1 b hb) λhf=>(g2' b hf).2 hb
  refine⟨⟨λb hb=>Nat.lt_of_lt_of_le (hs.1 b hb) e3',Kl q ⟨F'',e4',λb hb=>?_,?_⟩⟩,λ_ x=>x,hSS,e3'⟩
  ·rcases e5' b hb with hf|⟨hl,hu⟩
   ·exact⟨Nat.lt_of_lt_of_le (g2' b hf).1 e3',(g2' b hf).2⟩
   ·exact⟨hu,λhb'=>absurd (hs.1 b hb') (by omega)⟩
  ·refine Sp.ext g3' (λ_ x=>x) (λb hb=>?_) λb hb=>⟨⟨Nat.lt_of_lt_of_le hb.1.1 e3',hb.1.2⟩,λhf'=>?_⟩
   ·rcases hb with hb|hb
    ·exact hSS b hb
    ·exact e6' b hb.1.1 hb.2
   ·rcases e5' b hf' with hf|⟨hl,_⟩
    ·exact hb.2 hf
    ·exact absurd hb.1.1 (by omega)
 exact hK _ _ (k v' _ w' h' (hf.put hd _) e2 hst.1 hst.2)
theorem XN {α}{r:AV α}{T e sz by_:Nat}{z:List Value}{v:Value}{l xs:List α}{b2 T2 len2 sc:Nat}{news:List Value}{LL:Value→List HP}(hf:Fr n a m) (hx:BP m X=some v) (hy:BP m Y=some (.slice (some ⟨b2,0,none⟩) len2 sc)) (he:LR P T=some (e,sz,by_,z)) (hrs:r.sz=sz)
  (hm:Bx b2 T2 news∈L) (hn:H1 S h r news xs) (hl2:len2=xs.length)
  (hmx:l.length+xs.length≤maxLen) (hby:(l.length+xs.length)*by_≤140737488355328) (hd:Nat.blt d n.1=true) (hw:Wd B h w) (hs:St S L h) (rp:∀v',IZ L (OS r e v l) (OS r e v' (l++xs)) (LL v'))
  (k:∀v' a w h',Fr n a ((d,v')::m)→Wd B h' w→St S (LL v') h'→Bc S h S h'→wpList P ops Q rest a w):
  wpList P ops Q (⟨some d,.call ⟨.builtin .append,#[X,Y],#[T,T]⟩,ty,pos,af,none⟩::rest) a w:=by
 obtain⟨F,g1,_⟩:=hs.get hm
 refine Y8 hf hx hy he hrs (by rw[hl2]) hn (λj u hu=>?_) hmx hby hd hw hs rp k
 have hadd:(⟨b2,0,none⟩:Addr).add j=⟨b2,j,none⟩:=by unfold Addr.add;split<;>simp_all
 rw[hadd,Bx.cell g1];exact hu
def Ou (e:Nat) (len:Nat):List (Nat×Nat):=(List.range len).map λi=>(i*e,e)
theorem aH {T e sz by_ len:Nat}{z cs:List Value}{parts:Array (Nat×Operand)}{pv:List (Nat×Value)}(hf:Fr n a m) (he:LR P T=some (e,sz,by_,z)) (hp:parts.toList.mapM (VW m)=some pv)
  (hc:Io (Ou sz len) (List.replicate len z).flatten pv=some cs) (hl0:Nat.blt 0 len=true) (hsm:Nat.ble (len*sz) 16777216=true) (hd:Nat.blt d n.1=true) (hw:Wd B h w) (hs:St S L h)
  (hpl:∀p∈pv,p.1<len)
  (k:∀b a w h',Fr n a ((d,.slice (some ⟨b,0,none⟩) len len)::m)→Wd B h' w→St S (Bx b e cs::L) h'→Bc S h S h'→wpList P ops Q rest a w):
  wpList P ops Q (⟨some d,.buildSlice T len parts,ty,pos,af,none⟩::rest) a w:=by
 refine wpList_plain rfl λK hK=>?_
 unfold Oper.wp
 obtain⟨i,zv,h1,h2,h3,h4,h5,h6,h7,h8⟩:=Ht he
 have hpv:(parts.map λ(p:Nat×Operand)=>(p.1,a.eval p.2)).toList=pv:=by
  obtain⟨l⟩:=parts
  simp only at hp
  simp only[List.map_toArray]
  clear hc hpl k
  induction l generalizing pv with
  |nil=>simp at hp;subst hp;rfl
  |cons x l ih=>
   simp only[List.mapM_cons,Option.bind_eq_bind,Option.bind_eq_some_iff,VW,Option.map_eq_some_iff] at hp
   obtain⟨y,⟨v,hv,rfl⟩,ys,hys,hxy⟩:=hp
   simp only[Option.pure_def,Option.some.injEq] at hxy
   subst hxy
   simp only[List.map_cons,hf.eval hv,ih hys]
 have hlen:0<len:=(by simpa [Nat.blt] using hl0:1≤len)
 have hsm':len*sz≤16777216:=Nat.le_of_ble_eq_true hsm
 have hmade:((Array.range (len*i.size)).map (zv.cells[· %zv.cells.size]!))=((List.replicate len z).flatten).toArray:=by
  have:=IN z len (by omega)
  rw[h7] at this
  rw[←this]
  simp only[madeCells,h4,h6,List.size_toArray]
 have hfill:Instr.fill (λj=>some (j*i.size,i.size)) ((Array.range (len*i.size)).map (zv.cells[· %zv.cells.size]!)) pv=some cs.toArray:=by
  rw[hmade]
  have h0:=JN (Ou sz len) pv _ _ hc
  have hgen:∀(pv:List (Nat×Value)) (c:Array Value),(∀p∈pv,p.1<len)→Instr.fill (λj=>some (j*i.size,i.size)) c pv=Instr.fill ((Ou sz len).toArray[·]?) c pv:=by
   intro pv
   induction pv with
   |nil=>intro c _;rfl
   |cons p pv ih=>
    intro c hpl
    obtain⟨j,v⟩:=p
    have hj:j<len:=hpl (j,v) (by simp)
    have e1:(Ou sz len).toArray[j]? =some (j*i.size,i.size):=by simp [Ou,hj,h4]
    simp only[Instr.fill,e1]
    split
    ·rfl
    ·exact ih _ λp hp=>hpl p (by simp [hp])
  rw[hgen pv _ hpl];exact h0
 have hb:=run_buildSlice (P:=P) w T e len (parts.map λ(p:Nat×Operand)=>(p.1,a.eval p.2)) cs.toArray i zv h1 h2 h3 (by rw[h4];omega) (by rw[h4];exact Nat.ne_of_gt (Nat.mul_pos hlen h8)) (by rw[hpv];exact hfill)
 have hrun:(execOp a.eval ⟨some d,.buildSlice T len parts,ty,pos,af,none⟩).run P w= .ok (.value (.slice (some ⟨w.heap.size,0,none⟩) len len)) (w.alloc (.cells cs.toArray e)):=by
  simp only[execOp,Sem.run_bind,hb]
  rfl
 rw[hrun]
 obtain⟨k1,k2⟩:=hs.push e cs
 exact hK _ _ (k _ _ _ _ (hf.put hd _) (hw.alloc _) (by rw[hw.heap];exact k1) k2)
theorem St.bxos {α}{r:AV α}{b e:Nat}{cs:List Value}{l:List α}{M:List HP}(hs:St S L h) (rp:IZ L (Bx b e cs) (OS r e (.slice (some ⟨b,0,none⟩) l.length l.length) l) M) (hr:H1 S h r cs l) (hmx:l.length≤maxLen):St S M h:=
 (hs.upd rp (Nat.le_refl _) λF k1 _=>⟨F,.inr ⟨b,l.length,cs.toArray,rfl,k1.1,k1.2,Nat.le_refl _,hmx,by simpa using hr.len,by
  have:=hr.len
  simp only[←this,List.take_length];exact hr⟩,λ_ hb=> .inl hb,λ_ _ _=>rfl⟩).1
end
end Go.Proofs.YtibidnaedddfdaaGreat
