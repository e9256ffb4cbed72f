import Derived.Test.YtibidnaedddfdaaGreatBCore8
namespace Go.Proofs.YtibidnaedddfdaaGreat
open Go.RowKit
set_option linter.unusedVariables false
set_option linter.unusedSimpArgs false
def ix {α}(l:List α) (i:Int):Option α:=if i<0 then none else l[i.toNat]?
def upd {α}(l:List α) (i:Int) (x:α):List α:=l.set i.toNat x
def chk {α}(b:Bool) (x:Option α):Option α:=cond b x none
def room (n by_:Nat):Bool:=decide (n*by_≤140737488355328)
def Jt (len cap:Int) (by_:Nat):Bool:=decide (0≤len)&&decide (len≤cap)&&decide (by_*cap≤140737488355328)
theorem bd {α β}{a:Option α}{f:α→Option β}{r}(e:Option.bind a f=some r):∃x,a=some x∧f x=some r:=Option.bind_eq_some_iff.1 e
theorem A7 {α}{b:Bool}{x y r:α}(h:b=true) (e:cond b x y=r):x=r:=by subst h;exact e
theorem A8 {α}{b:Bool}{x y r:α}(h:b=false) (e:cond b x y=r):y=r:=by subst h;exact e
theorem O1 {α}{b:Bool}{x:Option α}{r}(e:chk b x=some r):b=true∧x=some r:=by
 cases b with
 |false=>cases e
 |true=>exact⟨rfl,e⟩
theorem IA {α}{l:List α}{i:Int}{x:α}(h:ix l i=some x):0≤i∧l[i.toNat]? =some x:=by
 unfold ix at h
 split at h
 ·cases h
 ·exact⟨by omega,h⟩
theorem Yd {α}{l:List α}{i:Int}{x:α}(h:ix l i=some x):0≤i∧i<(l.length:Int):=by
 obtain⟨h1,h2⟩:=IA h
 have:=(List.getElem?_eq_some_iff.1 h2).1
 exact⟨h1,by omega⟩
theorem MD {n by_:Nat}(h:room n by_=true):n*by_≤140737488355328:=of_decide_eq_true h
theorem GB {x y:Int}(h1:AB x) (h2:AB y):AB (max x y):=by unfold AB at *;omega
theorem G5 {x y:Int}(h1:AB x) (h2:AB y):AB (min x y):=by unfold AB at *;omega
theorem St.pick {S L h H L2}(hs:St S L h) (p:L4 L H L2):St S (H::L2) h:=⟨hs.1,Sp.pick p hs.2⟩
def HP.Flat (H:HP):Prop:=∀{S S' F h},H.holds S F h→H.holds S' F h
def AW.Flat {α}(r:AW α):Prop:=∀{S h S' h' cs x},r.rd S h cs x→r.rd S' h' cs x
theorem H9.flat {α}{r:AW α}(f:r.Flat) {S h S' h'}:∀{l:List α}{cs},H9 S h r cs l→H9 S' h' r cs l
 |[],_,k=>k
 |_::_,_,⟨c1,c2,e,k1,k2⟩=>⟨c1,c2,e,f k1,k2.flat f⟩
theorem OS.flat {α}{r:AW α}{T v l}(f:r.Flat):(OS r T v l).Flat:=λ{_ _ _ _} k=>by
 rcases k with k|⟨g,cap,cur,k1,k2,k3,k4,k5,k6,k7⟩
 ·exact .inl k
 ·exact .inr ⟨g,cap,cur,k1,k2,k3,k4,k5,k6,k7.flat f⟩
def PG:List HP→Prop
 |[]=>True
 |H::M=>H.Flat∧PG M
theorem Sp.join {S S':Nat→Prop}{h}{L:List HP}:∀{M:List HP}{A1 A2 A:Nat→Prop},PG M→Sp S' M h A1→Sp S L h A2→(∀b,A1 b→A b)→(∀b,A2 b→A b)→(∀b,A1 b→¬A2 b)→Sp S (M++L) h A
 |[],A1,A2,A,_,_,h2,_,i2,_=>h2.mono i2
 |H::M,A1,A2,A,⟨f,fm⟩,⟨F,g1,g2,g3⟩,h2,i1,i2,dj=>
  ⟨F,f g1,λb hb=>i1 b (g2 b hb),Sp.join fm g3 h2 (λb hb=>⟨i1 b hb.1,hb.2⟩) (λb hb=>⟨i2 b hb,λhf=>dj b (g2 b hf) hb⟩) λb hb=>dj b hb.1⟩
theorem St.join {S S' L M h h'}(hs:St S L h) (e:Bg (λb=>b<h.size) h S' h') (hm:St S' M h') (f:PG M):St S (M++L) h':=by
 refine⟨λb hb=>Nat.lt_of_lt_of_le (hs.1 b hb) e.siz,?_⟩
 have h2:Sp S L h' (λb=>b<h.size∧¬S b):=Sp.ext hs.2 (λ_ x=>x) (λb hb=>e.same b (hb.elim (hs.1 b) (·.1))) λ_ x=>x
 exact Sp.join f hm.2 h2 (λb hb=>⟨hb.1,λhb'=>hb.2 (e.sub b (hs.1 b hb'))⟩) (λb hb=>⟨Nat.lt_of_lt_of_le hb.1 e.siz,hb.2⟩) λb hb hb'=>hb.2 (e.sub b hb'.1)
def L0 {α β}(r:AW α) (off:Nat) (r':AW β) (g:α→β→α):Prop:=
 off+r'.sz≤r.sz∧∀{S h c x vs y},r.rd S h c x→r'.rd S h vs y→r.rd S h (Ei c off vs) (g x y)
theorem ED.id {α}{r:AW α}:ED r 0 r (λx=>x):=λ{S h cs x} k=>by
 have:=r.len k
 simp only[List.drop_zero,←this,List.take_length];exact k
theorem ED.trans {α β γ}{r:AW α}{r1:AW β}{r2:AW γ}{o1 o2 f g}(a:ED r o1 r1 f) (b:ED r1 o2 r2 g) (hz:o2+r2.sz≤r1.sz):ED r (o1+o2) r2 (λx=>g (f x)):=λ{S h cs x} k=>by
 have:=b (a k)
 rw[List.drop_take,List.drop_drop,List.take_take] at this
 rw[Nat.min_eq_left (by omega)] at this
 exact this
theorem L0.id {α}{r:AW α}:L0 r 0 r (λ_ y=>y):=⟨by omega,λ{S h c x vs y} k1 k2=>by
 have e1:=r.len k1
 have e2:=r.len k2
 simp only[Ei,List.take_zero,List.nil_append,Nat.zero_add]
 rw[List.drop_of_length_le (by omega),List.append_nil]
 exact k2⟩
theorem L0.trans {α β γ}{r:AW α}{r1:AW β}{r2:AW γ}{o1 o2 f g1 g2}(a:L0 r o1 r1 g1) (fa:ED r o1 r1 f) (b:L0 r1 o2 r2 g2):L0 r (o1+o2) r2 (λx y=>g1 x (g2 (f x) y)):=by
 refine⟨by have:=a.1;have:=b.1;omega,λ{S h c x vs y} k1 k2=>?_⟩
 have h1:=fa k1
 have h2:=b.2 h1 k2
 have h3:=a.2 k1 h2
 have e1:=r.len k1
 have e2:=r2.len k2
 have e3:=a.1
 have e4:=b.1
 have:Ei c (o1+o2) vs=Ei c o1 (Ei ((c.drop o1).take r1.sz) o2 vs):=by
  unfold Ei
  have l1:((c.drop o1).take r1.sz).length=r1.sz:=by simp;omega
  simp only[List.length_append,List.length_take,List.length_drop]
  rw[List.take_take,Nat.min_eq_left (by omega),List.drop_take,List.drop_drop]
  have l2:c.take (o1+o2)=c.take o1++(c.drop o1).take o2:=List.take_add ..
  rw[l2]
  simp only[List.append_assoc,List.append_cancel_left_eq]
  have l3:o1+(min o2 (min r1.sz (c.length-o1))+vs.length+(min r1.sz (c.length-o1)-(o2+vs.length)))=o1+r1.sz:=by omega
  rw[l3]
  have l4:c.drop (o1+(o2+vs.length))=(c.drop (o1+(o2+vs.length))).take (r1.sz-(o2+vs.length))++(c.drop (o1+(o2+vs.length))).drop (r1.sz-(o2+vs.length)):=(List.take_append_drop _ _).symm
  have l5:(c.drop (o1+(o2+vs.length))).drop (r1.sz-(o2+vs.length))=c.drop (o1+r1.sz):=by rw[List.drop_drop];congr 1;omega
  rw[←l5,Nat.add_assoc]
  exact l4
 rw[this]
 exact h3
theorem W1 {g k off:Nat}:(⟨g,k,none⟩:Addr).add off=⟨g,k+off,none⟩:=by unfold Addr.add;split<;>simp_all
theorem St.epAt {α β}{r:AW α}{r':AW β}{S L h T v l i x off f q}(hs:St S L h) (hm:OS r T v l∈L) (hx:ix l i=some x) (fl:ED r off r' f) (ep:EP v (i.toNat*r.sz+off) q):J7 (λb=>b<h.size) S h r' q (f x):=by
 obtain⟨g,cap,rfl,k⟩:=hs.osAt hm (IA hx).2
 obtain⟨g',n,c,e1,rfl⟩:=ep
 injection e1 with e1
 injection e1 with e1
 injection e1 with e1
 subst e1
 obtain⟨a,ha,k2⟩:=k.fld fl
 injection ha with ha
 injection ha with ha
 subst ha
 rw[W1] at k2
 exact k2
def AW.fn {α β:Type}(P:Program) (ar:α→List Value) (ok:α→Prop) (rs:β→Value) (okr:β→Prop):AW (α→Option β) where
 sz:=1
 ag:=false
 rd:=λS h cs φ=>∃(f:FuncId) (caps:Array Value),cs=[.func (.func f) #[] caps]∧Ar P f=true∧∀(S':Nat→Prop) (h':Ac),(∀b,S b→S' b)→(∀b,S b→h'[b]? =h[b]?)→∀L,St S' L h'→∀x y,ok x→φ x=some y→
  Bh P f (ar x++caps.toList).toArray S' h' (λv S'' h''=>v=rs y∧okr y∧St S'' L h'')
 len:=λ⟨_,_,h,_⟩=>by rw[h];rfl
 one:=λ⟨_,_,h,_⟩ v hv=>by rw[h] at hv;simp at hv;rw[hv];rfl
 mono:=λ⟨f,caps,h1,h2,h3⟩ s e=>⟨f,caps,h1,h2,λS' h' s' e'=>h3 S' h' (λb hb=>s' b (s b hb)) λb hb=>(e' b (s b hb)).trans (e b hb)⟩
theorem Rd.fn {α β:Type}{P:Program}{ar:α→List Value}{ok:α→Prop}{rs:β→Value}{okr:β→Prop}{S h v}{φ:α→Option β}(k:Rd S h (AW.fn P ar ok rs okr) v φ):
  ∃(f:FuncId) (caps:Array Value),v= .func (.func f) #[] caps∧Ar P f=true∧∀(S':Nat→Prop) (h':Ac),(∀b,S b→S' b)→(∀b,S b→h'[b]? =h[b]?)→∀L,St S' L h'→∀x y,ok x→φ x=some y→
  Bh P f (ar x++caps.toList).toArray S' h' (λv S'' h''=>v=rs y∧okr y∧St S'' L h''):=by
 obtain⟨_,rfl,f,caps,rfl,h⟩:=k
 exact⟨f,caps,rfl,h⟩
theorem JZ {α β:Type}{P:Program}{ar:α→List Value}{ok:α→Prop}{rs:β→Value}{okr:β→Prop}{S h}{φ:α→Option β}(f:FuncId) (caps:Array Value) (h1:Ar P f=true)
  (h2:∀(S':Nat→Prop) (h':Ac),(∀b,S b→S' b)→(∀b,S b→h'[b]? =h[b]?)→∀L,St S' L h'→∀x y,ok x→φ x=some y→Bh P f (ar x++caps.toList).toArray S' h' (λv S'' h''=>v=rs y∧okr y∧St S'' L h'')):
  Rd S h (AW.fn P ar ok rs okr) (.func (.func f) #[] caps) φ:=⟨_,rfl,f,caps,rfl,h1,h2⟩
theorem J7.mono'' {α S h S' h'}{r:AW α}{p x}(k:Pt S h r p x) (s:∀b,S b→S' b) (e:∀b,S b→h'[b]? =h[b]?):Pt S' h' r p x:=
 let ⟨cs,h1,h2⟩:=k;⟨cs,h1.mono s e,r.mono h2 s e⟩
theorem Rd.mono'' {α S h S' h'}{r:AW α}{v x}(k:Rd S h r v x) (s:∀b,S b→S' b) (e:∀b,S b→h'[b]? =h[b]?):Rd S' h' r v x:=
 let ⟨cs,h1,h2⟩:=k;⟨cs,h1,r.mono h2 s e⟩
theorem St.pubb {S L L2 h b T cs}{α}{r:AW α}{x:α}(hs:St S L h) (p:L4 L (Bx b T cs) L2) (hr:r.rd S h cs x):∃S',St S' L2 h∧Bg S h S' h∧Pt S' h r (.pointer (some ⟨b,0,none⟩)) x:=by
 obtain⟨F,h1,h2,h3,h4⟩:=hs.pub p
 exact⟨_,h3,h4,cs,⟨⟨b,0,none⟩,rfl,rfl,.inr ((h1.1 b).2 rfl),λj _=>by simp only[Nat.zero_add];exact Bx.cell h1 j⟩,r.mono hr h4.sub h4.same⟩
section
variable {P:Program}{ops:Array Oper}{C:World→Prop}{Q:Act→Prop}{n:FN}{m m':SM}{rest:List Oper}
variable {d:Nat}{ty:TypeId}{pos:String}{af:Array Edge}{X Y:Operand}{t t1 t2:TypeId}{x y z:Int}{kd:IntKind}{v p:Value}{S:Nat→Prop}{L:List HP}{h:Ac}
namespace QF
theorem ixe {α}{r:AW α}{l:List α}{e i x}(hx:BW m X=some v) (hy:BW m Y=some (.int .i64 i)) (k0:Sl S h r v l) (ht:I0 P t e r.sz=true) (hi:Go.Proofs.YtibidnaedddfdaaGreat.ix l i=some x) (hd:Nat.blt d n.1=true)
  (k:∀q,Pt S h r q x→QF P ops C Q rest n ((d,q)::m)):QF P ops C Q (⟨some d,.indexAddr t X Y,ty,pos,af,none⟩::rest) n m:=ix hx hy k0 ht (IA hi).1 (IA hi).2 hd k
theorem ixoe {α}{r:AW α}{l:List α}{T e i x}(hs:St S L h) (hm:OS r T v l∈L) (hx:BW m X=some v) (hy:BW m Y=some (.int .i64 i)) (ht:I0 P t e r.sz=true) (hi:Go.Proofs.YtibidnaedddfdaaGreat.ix l i=some x) (hd:Nat.blt d n.1=true)
  (k:∀q,EP v (i.toNat*r.sz+0) q→QF P ops C Q rest n ((d,q)::m)):QF P ops C Q (⟨some d,.indexAddr t X Y,ty,pos,af,none⟩::rest) n m:=ixo hs hm hx hy ht (IA hi).1 (IA hi).2 hd λq _ e=>k q e
theorem fae {k0 j off:Nat}{q:Value}(hx:BW m X=some q) (ep:EP v k0 q) (ht:D6 P t j off=true) (hd:Nat.blt d n.1=true)
  (k:∀q',EP v (k0+off) q'→QF P ops C Q rest n ((d,q')::m)):QF P ops C Q (⟨some d,.fieldAddr t X j,ty,pos,af,none⟩::rest) n m:=by
 obtain⟨g,n',c,e1,rfl⟩:=ep
 exact fao hx ht hd (k _ ⟨g,n',c,e1,rfl⟩)
theorem addz (hx:BW m X=some (.int .i64 x)) (hy:BW m Y=some (.int .i64 y)) (hd:Nat.blt d n.1=true) (hz:A3 (x+y)=z) (k:QF P ops C Q rest n ((d,.int .i64 z)::m)):QF P ops C Q (⟨some d,.binOp .add t1 X Y t2,ty,pos,af,none⟩::rest) n m:=addw hx hy hd (hz▸k)
theorem subz (hx:BW m X=some (.int .i64 x)) (hy:BW m Y=some (.int .i64 y)) (hd:Nat.blt d n.1=true) (hz:A3 (x-y)=z) (k:QF P ops C Q rest n ((d,.int .i64 z)::m)):QF P ops C Q (⟨some d,.binOp .sub t1 X Y t2,ty,pos,af,none⟩::rest) n m:=subw hx hy hd (hz▸k)
theorem ext {xs:Array Value}{i:Nat}{u:Value}(hx:BW m X=some (.tuple xs)) (hi:xs[i]? =some u) (hd:Nat.blt d n.1=true) (k:QF P ops C Q rest n ((d,u)::m)):QF P ops C Q (⟨some d,.extract X i,ty,pos,af,none⟩::rest) n m:=
 λa hf=>EA hf hd (λw _=>by simp [execOp,hf.eval hx,Instr.extract,hi]) k
theorem mkf {f:Fn}{fs cs:Array Operand}{fv cv:List Value}(h1:fs.toList.mapM (BW m)=some fv) (h2:cs.toList.mapM (BW m)=some cv) (hd:Nat.blt d n.1=true) (k:QF P ops C Q rest n ((d,.func f fv.toArray cv.toArray)::m)):QF P ops C Q (⟨some d,.makeFunc f fs cs,ty,pos,af,none⟩::rest) n m:=
 λa hf=>EA hf hd (λw _=>by
  have e:(execOp a.eval ⟨some d,.makeFunc f fs cs,ty,pos,af,none⟩).run P w= .ok (.value (.func f (fs.map a.eval) (cs.map a.eval))) w:=rfl
  rw[e,Rj hf h1,Rj hf h2]) k
end QF
end
namespace WF
section
variable {P:Program}{ex:List (Nat×AP)}{R N:AP}{cs:List Code}{B:World}{h:Ac}{n:FN}{m m':SM}{S:Nat→Prop}{L:List HP}
theorem blockJ {i:Nat}{c:Code}(I:AP) (h1:WF P ((i,I)::ex) R [c] I B h n m) (h2:∀a w,I a w→W P ex R cs N a w):WF P ex R (.block i c::cs) N B h n m:=λa w hf hw=>PN I (h1 a w hf hw) h2
theorem loopF {c:Code}(I:Nat→AP) (n₀:Nat) (h0:∀a w,Fr n a m→Wd B h w→I n₀ a w) (hz:∀a w,¬I 0 a w) (round:∀k a w,I (k+1) a w→W P ex R [c] (I k) a w):WF P ex R (.loop c::cs) N B h n m:=by
 refine loop (λi a w=>∃k,i+k=n₀∧I k a w) n₀ 0 (λa w hf hw=>⟨n₀,by omega,h0 a w hf hw⟩) (λi a w ⟨k,hk,_⟩=>by omega) λi a w ⟨k,hk,hI⟩=>?_
 cases k with
 |zero=>exact absurd hI (hz a w)
 |succ k=>exact WW (round k a w hI) λa' w' h'=>⟨k,by omega,h'⟩
end
end WF
namespace LF
section
variable {P:Program}{ops:Array Oper}{Q:Exit→Act→World→Prop}{n:FN}{m:SM}{rest:List Oper}
variable {d:Nat}{ty:TypeId}{pos:String}{af:Array Edge}{X Y:Operand}{B:World}{h:Ac}{S:Nat→Prop}{L L2:List HP}{v:Value}
theorem callb {f:Nat}{xs:Array Operand}{tys:Array TypeId}{args vs:List Value}{first cap:Array Value}{post:Value→(Nat→Prop)→Ac→Prop}
  (hX:BW m X=some (.func (.func f) first cap)) (hxs:xs.toList.mapM (BW m)=some args) (hvs:first.toList++args++cap.toList=vs) (hcb:Ar P f=true) (hd:Nat.blt d n.1=true) (hs:St S L h) (hc:Bh P f vs.toArray (λb=>b<h.size) h post)
  (k:∀v S' h',St S L h'→Bg S h S h'→Bg (λb=>b<h.size) h S' h'→post v S' h'→LF P ops Q rest B h' n ((d,v)::m)):LF P ops Q (⟨some d,.call ⟨.value X,xs,tys⟩,ty,pos,af,none⟩::rest) B h n m:=
 λ_ _ hf hw=>Tk hf hX hxs hvs hcb hd hw hc λv a w S' h' hf hw e p=>
  have o:An h h':=⟨e.siz,λb hb=>e.same b hb⟩
  k v S' h' (o.st hs) (o.ext hs.1) e p a w hf hw
theorem app2 {α}{r:AW α}{T e sz by_:Nat}{z:List Value}{l xs:List α}{b2 T2 len2 sc:Nat}{news:List Value}{LL:Value→List HP}(hx:BW m X=some v) (hy:BW m Y=some (.slice (some ⟨b2,0,none⟩) len2 sc)) (he:LO P T=some (e,sz,by_,z)) (hrs:r.sz=sz)
  (hm:Bx b2 T2 news∈L) (hn:H9 S h r news xs) (hl2:len2=xs.length) (hpos:Nat.blt 0 by_=true) (hby:room (l.length+xs.length) by_=true) (hd:Nat.blt d n.1=true) (hs:St S L h) (rp:∀v',Ik L (OS r e v l) (OS r e v' (l++xs)) (LL v'))
  (k:∀v' h',St S (LL v') h'→Bg S h S h'→LF P ops Q rest B h' n ((d,v')::m)):LF P ops Q (⟨some d,.call ⟨.builtin .append,#[X,Y],#[T,T]⟩,ty,pos,af,none⟩::rest) B h n m:=
 app1 hx hy he hrs hm hn hl2 hpos (MD hby) hd hs rp k
theorem mke {α}{r:AW α}{T e sz by_:Nat}{z:List Value}{zx:α}{len cap:Int}{kl kc:IntKind}{U V:Operand}(he:LO P T=some (e,sz,by_,z)) (hrs:r.sz=sz) (hz:r.rd S h z zx)
  (hx:BW m U=some (.int kl len)) (hy:BW m V=some (.int kc cap)) (hok:Jt len cap by_=true) (hpos:Nat.blt 0 by_=true) (hd:Nat.blt d n.1=true) (hs:St S L h)
  (k:∀v h',St S (OS r e v (List.replicate len.toNat zx)::L) h'→Bg S h S h'→LF P ops Q rest B h' n ((d,v)::m)):LF P ops Q (⟨some d,.makeSlice T U V,ty,pos,af,none⟩::rest) B h n m:=by
 simp only[Jt,Bool.and_eq_true,decide_eq_true_eq] at hok
 obtain⟨⟨h0,h1⟩,h2⟩:=hok
 obtain⟨a,rfl⟩:∃a:Nat,len=a:=⟨len.toNat,by omega⟩
 obtain⟨c,rfl⟩:∃c:Nat,cap=c:=⟨cap.toNat,by omega⟩
 have h3':((by_*c:Nat):Int)≤140737488355328:=by rw[Int.natCast_mul];exact h2
 have h3:by_*c≤140737488355328:=by omega
 have h4:1≤by_:=by simpa [Nat.blt] using hpos
 have h5:c≤by_*c:=Nat.le_mul_of_pos_left _ h4
 exact mk he hrs hz hx hy (by omega) (by omega) (by unfold maxLen;omega) hd hs (by simpa using k)
theorem ste {α β}{r:AW α}{r':AW β}{T' e:TypeId}{l:List α}{i:Int}{x:α}{y:β}{g:α→β→α}{off:Nat}{q u:Value}(hx:BW m X=some q) (hy:BW m Y=some u) (hu:Rd S h r' u y) (ep:EP v (i.toNat*r.sz+off) q) (hix:ix l i=some x)
  (up:L0 r off r' g) (ht:GA P T' r'.sz r'.ag=true) (h1:r'.ag=false→r'.sz=1) (hs:St S L h) (rp:Ik L (OS r e v l) (OS r e v (upd l i (g x y))) L2)
  (k:∀h',St S L2 h'→Bg S h S h'→LF P ops Q rest B h' n m):LF P ops Q (⟨none,.store T' X Y,ty,pos,af,none⟩::rest) B h n m:=by
 intro a w hf hw
 refine wpList_plain rfl λK hK=>?_
 unfold Oper.wp
 obtain⟨vs,rfl,hrd⟩:=hu
 have hlen:=r'.len hrd
 have hv:(r'.val vs).cells=vs.toArray:=by
  unfold AW.val
  cases hag:r'.ag with
  |true=>rfl
  |false=>
   have hl:=hlen
   rw[h1 hag] at hl
   match vs,hl,hrd with
   |[c],_,hrd=>
    have ho:=r'.one hrd c (by simp)
    cases c<;>first|rfl|(simp [Value.oneCell'] at ho)
 obtain⟨M,p,_⟩:=rp.pick
 obtain⟨F,g1,g2,_⟩:=Sp.pick p hs.2
 obtain⟨gg,n',c',rfl,rfl⟩:=ep
 obtain⟨i0,hil⟩:=IA hix
 have hlt:i.toNat<l.length:=(List.getElem?_eq_some_iff.1 hil).1
 have hle:i.toNat*r.sz+r.sz≤l.length*r.sz:=by rw[←Nat.succ_mul];exact Nat.mul_le_mul_right _ hlt
 have hoff:=up.1
 obtain⟨ti,dd,hi,hd,hs',hag⟩:=LW ht
 have main:∀F,(OS r e (.slice (some ⟨gg,0,none⟩) n' c') l).holds S F h→(∀b,F b→b<h.size∧¬S b)→∃cur,(∀b,F b↔b=gg)∧h[gg]? =some (.cells cur e (0,0))∧l.length*r.sz≤cur.size∧
   ∀h',h'.size=h.size→h'[gg]? =some (.cells (Ei cur.toList (i.toNat*r.sz+off) vs).toArray e (0,0))→(∀b,b≠gg→h'[b]? =h[b]?)→(OS r e (.slice (some ⟨gg,0,none⟩) n' c') (upd l i (g x y))).holds S F h':=by
  intro F k1 hF
  rcases k1 with ⟨k1,_⟩|⟨g0,cap,cur,k1,k2,k3,k4,k5,k6,k7⟩
  ·cases k1
  ·injection k1 with e1 e2 e3
   injection e1 with e1
   injection e1 with e1
   subst e1;subst e2;subst e3
   have hcs:l.length*r.sz≤cur.size:=by rw[k6];exact Nat.mul_le_mul_right _ k4
   refine⟨cur,k2,k3,hcs,λh' z1 z2 z3=> .inr ⟨gg,c',_,?_,k2,z2,?_,k5,?_,?_⟩⟩
   ·simp [upd]
   ·simpa [upd] using k4
   ·rw[List.size_toArray,Pi _ _ _ (by simp;omega)];simpa using k6
   ·have e4:((Ei cur.toList (i.toNat*r.sz+off) vs).toArray.toList.take ((upd l i (g x y)).length*r.sz))=Ei (cur.toList.take (l.length*r.sz)) (i.toNat*r.sz+off) vs:=by
     unfold Ei upd
     simp only[List.length_set]
     rw[List.take_take,Nat.min_eq_left (by omega),List.take_append,List.take_of_length_le (by simp;omega),List.drop_take]
     congr 2
     simp
     omega
    rw[e4]
    have hmono:H9 S h' r (cur.toList.take (l.length*r.sz)) l:=k7.mono (λ_ x=>x) λb hb=>z3 b λe=>(hF b ((k2 b).2 e)).2 hb
    have hrd':r'.rd S h' vs y:=r'.mono hrd (λ_ x=>x) λb hb=>z3 b λe=>(hF b ((k2 b).2 e)).2 hb
    exact hmono.set hil (by omega) λc hc=>up.2 hc hrd'
 obtain⟨cur,m1,m2,m3,m4⟩:=main F g1 g2
 have hg:w.heap[gg]? =some (.cells cur e (0,0)):=by rw[hw.heap];exact m2
 have hst:=run_storeCells_at P gg (i.toNat*r.sz+off) e vs 0 cur w hg (by omega) (λu hu=>r'.one hrd u hu)
 have hcs':(List.take (i.toNat*r.sz+off+0) cur.toList++vs++List.drop (i.toNat*r.sz+off+0+vs.length) cur.toList)=Ei cur.toList (i.toNat*r.sz+off) vs:=by simp [Ei]
 rw[hcs'] at hst
 have hrun:(execOp a.eval ⟨none,.store T' X Y,ty,pos,af,none⟩).run P w= .ok .skip (w.setRow gg (Ei cur.toList (i.toNat*r.sz+off) vs).toArray):=by
  simp [execOp,hf.eval hx,hf.eval hy,Instr.storeAt,Instr.sureAddr,storeVar,hv,MB hi,hs',hlen,hst]
 rw[hrun]
 obtain⟨h',e1,e2,e3,e4⟩:=Mx w gg cur (Ei cur.toList (i.toNat*r.sz+off) vs).toArray e hg
 rw[hw.heap] at e2 e4
 obtain⟨u1,u2⟩:=hs.upd (h':=h') rp (by omega) λF k1 k2=>by
  obtain⟨cur',q1,q2,q3,q4⟩:=main F k1 k2
  rw[m2] at q2
  injection q2 with q2
  injection q2 with q2
  subst q2
  exact⟨F,q4 h' e2 e3 e4,λc hc=> .inl hc,λc _ hc=>e4 c λe=>hc ((q1 c).2 e)⟩
 exact hK _ _ (k h' u1 u2 _ _ hf ⟨e1,hw.os,hw.tape,hw.out⟩)
end
end LF
end Go.Proofs.YtibidnaedddfdaaGreat
